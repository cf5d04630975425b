/- The machines: what it means to be walked or run, part 5. No condition. -/
import Derived.Test.YtgdcjlldafmomaaGreatA4
import Derived.Shelf.SlIterI.Collect
import Derived.Shelf.SlIterI.Sorted
import Derived.Deep.DeepHandedRow
import Derived.OpenShut
import Derived.ChangeArms
namespace Go.Ax
open Go.Proofs Go.Sort Go.Shelf Go.Maps
def ji{β:Type}(es:List (Int×β)):List Int:=(es.map (·.1)).mergeSort fun x y=>decide (x≤y)
def yB{β:Type}(es:List (Int×β)):Option (List Int):=if es.length*8≤aE then some (ji es) else none
theorem Cn{E:Env}{w:World}{v:Ty}:∀{en:List MapEntry}{es:List (Int×v.den)},RM E w (.int .i64) v en es→en.map (·.key)=es.map (fun x=>Value.int .i64 x.1)∧(∀x∈es,IntKind.i64.min≤x.1∧x.1≤IntKind.i64.max)
 |[],[],_=>⟨rfl,fun x hx=>by cases hx⟩
 |[],_::_,h=>h.elim
 |_::_,[],h=>h.elim
 |
  e::en,x::es,⟨h1,_,h3⟩=>by
  obtain⟨k1,k2⟩:=Cn h3
  have hk:e.key= .int .i64 x.1∧IntKind.i64.min≤x.1∧x.1≤IntKind.i64.max:=by
   rcases h1 with⟨hx,_⟩|⟨_,hx,hb⟩
   ·cases hx
   grind
  grind
theorem EK{m b:Nat}{k k' k'':aN}(h:(aQ (List.replicate m none) [(0,some k),(1,some k')])[b]? =some (some k'')):(b=0∧k''=k)∨(b=1∧k''=k'):=by
 rcases dL h with h|⟨_,h⟩<;>grind
theorem kH{m b X:Nat}{k k' k2 k'':aN}(h:(aQ (List.replicate m none) [(0,some k),(1,some k'),(X,some k2)])[b]? =some (some k'')):(b=0∧k''=k)∨(b=1∧k''=k')∨(b=X∧k''=k2):=by
 rcases dL h with h|⟨_,h⟩<;>grind
def yC(_:Value):Option (DataW Unit×List MemPlace):=some (.nil,[])
theorem Hn{P:Program}{ρa ρb:Ren}(L10:SlLaysZI.n10 P ρa)(L6:SlLaysZI.n6 P ρb)(hsorts:AnyZI.SortsIn P ρb Fence.wide 4){gl:Ctx}(hmd:¬gl.md)
 (hent:∀vs w,(callFunc (ρb.f 6) vs).run P w= .ok (.enter (ρb.f 6) vs) w) (e9:∀vs w,(callFunc (ρb.f 9) vs).run P w= .ok (.enter (ρb.f 9) vs) w) (eg:∀vs w,(callFunc (ρa.f 10) vs).run P w= .ok (.enter (ρa.f 10) vs) w)
 {tv vt:Ty} {es:List (Int×vt.den)} {ys:List Int} (hs:yB es=some ys) (m X:Nat) (hm:1<m) (hX:X<m) (hX2:16≤X):
 Fc P gl (ρb.f 6) [.func (.func (ρa.f 10)) .nil (.cons (.ptr 0 []) .nil)] (aQ (List.replicate m none) [(0,some (.var tv (.mp 1))),(1,some (.map (.int .i64) vt es))]) (.ret (.own X)) (db m [(0,.var tv (.mp 1)),(1,.map (.int .i64) vt es),(X,.row (ρb.t 26) 8 (.int .i64) ys)]):=by
 refine⟨hent,?_⟩
 unfold yB at hs
 split at hs
 ·rename_i hlen
  cases hs
  refine rm.nk (fun b k hb=>by rcases EK hb with⟨_,rfl⟩|⟨_,rfl⟩<;>rfl) ?_
  intro E w vs hP hvs hw
  match vs,hvs with
  |
   [v0],⟨h0,_⟩=>
   have at0:(aQ (List.replicate m none) [(0,some (aN.var tv (.mp 1))),(1,some (.map (.int .i64) vt es))])[0]? =some (some (.var tv (.mp 1))):=by
    simp[aQ,show 0<m by omega]
   have at1:(aQ (List.replicate m none) [(0,some (aN.var tv (.mp 1))),(1,some (.map (.int .i64) vt es))])[1]? =some (some (.map (.int .i64) vt es)):=by
    simp[aQ,hm]
   obtain⟨n1,_,gm,en,clock,m1,m2,m3,m4,m5⟩:=hw.cE 1 _ at1
   obtain⟨b1,_,gb,cells,eb,b2,b3,b4⟩:=hw.cE 0 _ at0
   have h0:cC E w (.func (.func (ρa.f 10)) .nil (.cons (.ptr 0 []) .nil)) v0:=h0
   rcases h0 with⟨hx,_⟩|⟨_,f,cb,q1,q2,q3,_,_⟩
   ·cases hx
   have q2:f.toList= []:=q2
   have hf:f= #[]:=by
    grind
   subst hf
   obtain⟨v1,v2,q4,⟨gp,q5,q6,_⟩,q7⟩:=q3
   rw[b2] at q5;cases q5
   have q7:v2= []:=q7
   have hoff:(E.bt 0).off []=0:=Ty.jQ _
   have hcb:cb= #[.pointer (some ⟨gb,0,none⟩)]:=by
    grind
   have hv0:v0= .func (.func (ρa.f 10)) #[] #[.pointer (some ⟨gb,0,none⟩)]:=by
    grind
   obtain⟨gq,b5,b6⟩:=b4
   rw[m1] at b5;cases b5
   have hgb:gb<w.heap.size:=(Array.getElem?_eq_some_iff.1 b3).1
   have hcell:w.cell? ⟨gb,0,none⟩=some (.map (some gm)):=by
    unfold World.cell?
    rw[b3]
    have:cells= #[.map (some gm)]:=by
     grind
    grind
   obtain⟨k1,k2⟩:=Cn m3
   have hesz:en.size=es.length:=by
    have:=congrArg List.length k1
    grind
   have hmx:aE=140737488355328:=rfl
   have hml:maxLen=9223372036854775807:=rfl
   have u26:P.underlying (ρa.t 26)=some (.int .i64):=L10.t26
   have hkey:∀x∈en.toList,∃z:Int,keyOf P (ρa.t 26) x.key=some (.int .i64 z)∧x.key= .int .i64 z:=by
    intro x hx
    have:x.key∈en.toList.map (·.key):=List.mem_map.2 ⟨x,hx,rfl⟩
    rw[k1] at this
    obtain⟨y,hy,e⟩:=List.mem_map.1 this
    refine⟨y.1,?_,e.symm⟩
    rw[←e]
    have hw:(Lit.int .i64 y.1).wf=true:=by
     grind [Lit.wf]
    simp[keyOf,u26,mapKey,hw]
   have hrd:∀x∈en.toList,∀z:Int,x.key= .int .i64 z→Go.WideElems.rd P (ρa.t 26) yC x=some (.int .i64 z,.nil):=by
    grind [Go.WideElems.rd,yC]
   have hown:w.ownsMap P (ρa.t 26) yC gm en.size (.map ((en.toList.map (Go.WideElems.rg P (ρa.t 26) yC)).foldr DataW.insert [])):=by
    refine⟨en,clock,m2,⟨by rw[hesz];omega,⟨m4,m5,?_⟩,fun x hx=>?_⟩,cL _,rfl⟩<;>grind
   have hD:∀ss:List Int,ss.Perm (intKeys (.map ((en.toList.map (Go.WideElems.rg P (ρa.t 26) yC)).foldr DataW.insert [])))→ss.Perm (es.map (·.1)):=by
    intro ss hss
    refine hss.trans ?_
    have p1:=(WideShapes.sorted_perm (en.toList.map (Go.WideElems.rg P (ρa.t 26) yC))).map (fun p=>intOf p.1)
    refine List.Perm.trans p1 (List.Perm.of_eq ?_)
    rw[List.map_map]
    have:en.toList.map ((fun p:Lit×DataW Unit=>intOf p.1)∘Go.WideElems.rg P (ρa.t 26) yC)=(en.toList.map (·.key)).map fun v=>match v with| .int _ z=>z|_=>0:=by
     rw[List.map_map]
     apply List.map_congr_left
     intro x hx
     obtain⟨z,_,hz⟩:=hkey x hx
     simp only[Function.comp,Go.WideElems.rg_of (hrd x hx z hz),hz]
     rfl
    simp_all
   have hDs:Maps.size (DataW.map ((en.toList.map (Go.WideElems.rg P (ρa.t 26) yC)).foldr DataW.insert []))=es.length:=by
    show List.length _=_
    rw[length_read,hesz]
   have hseq:=AnyZI.keys_gives L10 (H:=Unit) Fence.wide 2 trivial rfl (by omega) gb gm en.size _ w hgb hcell hown
   rw[hDs] at hseq
   have main:=AnyZI.sorted_in L6 Fence.wide 5 trivial trivial trivial trivial rfl (by omega) hsorts e9 (ρa.f 10) #[.pointer (some ⟨gb,0,none⟩)] trivial eg _ es.length (by omega) (by omega) w hseq
   have hargs:[v0].toArray= #[.func (.func (ρa.f 10)) #[] #[.pointer (some ⟨gb,0,none⟩)]]:=by rw[hv0]
   rw[hargs]
   refine(callsIn_wide.1 main).mono ?_
   rintro e1 w1 ⟨v,ss,rfl,hS,hrow,_,hb⟩
   have hperm:=hD ss hS
   have hsort:(ss.mergeSort fun x y=>decide (x≤y))=ji es:=mergeSort_of_perm_i hperm
   rw[hsort] at hrow
   have hsl:ss.length=es.length:=by rw[hperm.length_eq,iO]
   have hyl:(ji es).length=es.length:=by unfold ji;simp_all
   have hsame:∀g,g<w.heap.size→w1.heap[g]? =w.heap[g]? :=fun g hg=>hb.block g hg
   have hb2:∀z∈ji es,IntKind.i64.min≤z∧z≤IntKind.i64.max:=by
    intro z hz
    have:z∈es.map (·.1):=(List.mergeSort_perm _ _).mem_iff.1 hz
    grind
   rw[hsl,←hyl] at hrow
   obtain⟨og,hEv,hog,hRB⟩:∃og:Option Nat,(∃a n c,v= .slice a n c)∧(∀g,og=some g→w.heap.size≤g)∧∀E':Env,E'.g X=og→E'.sv X=v→E'.bt X= .arr (ji es).length (.int .i64)→RB E' w1 X (.row (ρb.t 26) 8 (.int .i64) (ji es)):=by
    rcases hrow.2 with⟨hv,hz⟩|⟨g,cap,cur,hv,r0,r1,r2,r3,r4,r5⟩
    ·have hn:ji es= []:=uU hz
     refine⟨none,⟨_,_,_,hv⟩,(fun g hg=>by cases hg),fun E' h1 h2 h3=>?_⟩
     rw[hn] at h3 ⊢
     exact⟨h3,by simp,by simp,Nat.one_pos,none,0,by grind,fg _,Or.inl ⟨⟨rfl,rfl⟩,h1,rfl⟩⟩
    ·refine⟨some g,⟨_,_,_,hv⟩,(fun g' hg=>by grind),fun E' h1 h2 h3=>?_⟩
     refine⟨h3,by grind,by grind,Nat.one_pos,some ⟨g,0,none⟩,cap,by grind,r3,Or.inr ⟨g,cur,h1,rfl,r1,r4,r2,?_⟩⟩
     have hsz:Ty.size (.int .i64)=1:=rfl
     grind [qX]
   have hX0:X≠0:=by omega
   have hX1:X≠1:=by omega
   let E':Env:={E with g:=fun b=>if b=X then og else E.g b,sv:=fun b=>if b=X then v else E.sv b,bt:=fun b=>if b=X then .arr (ji es).length (.int .i64) else E.bt b}
   have outE:db m [(0,.var tv (.mp 1)),(1,.map (.int .i64) vt es),(X,.row (ρb.t 26) 8 (.int .i64) (ji es))]=aQ (List.replicate m none) [(0,some (.var tv (.mp 1))),(1,some (.map (.int .i64) vt es)),(X,some (.row (ρb.t 26) 8 (.int .i64) (ji es)))]:=rfl
   have kp:bJ E w E' w1:=⟨fun b hb'=>hsame b (hw.slt b hb'),fun _ h=>h⟩
   have eX:E'.g X=og∧E'.sv X=v∧E'.bt X= .arr (ji es).length (.int .i64):=⟨aA rfl,aA rfl,aA rfl⟩
   have eN:∀b,b≠X→E'.g b=E.g b∧E'.sv b=E.sv b∧E'.bt b=E.bt b:=fun b h=>⟨aC h,aC h,aC h⟩
   have gm_lt:gm<w.heap.size:=(Array.getElem?_eq_some_iff.1 m2).1
   have g_old:∀b g,b=0∨b=1→E'.g b=some g→g<w.heap.size∧E.g b=some g:=by
    grind
   refine⟨E',?_,?_,?_⟩
   ·show cC _ _ _ _
    obtain⟨a,n,c,hv⟩:=hEv
    exact Or.inr ⟨rfl,by grind,a,n,c,by grind⟩
   ·rw[outE]
    refine⟨fun b k hb'=>?_,fun b b' k k' g hb1 hb2 hg1 hg2=>(have hg1:=hg1.resolve_right (hP _ _);have hg2:=hg2.resolve_right (hP _ _);?_),fun b k g hb' hg hS'=>(have hg:=hg.resolve_right (hP _ _);?_),fun g hg=>sF (hw.slt g hg) hb.size,hw.fI kp,fun b _ g _ h=>absurd h (hP b g)⟩
    ·rcases kH hb' with⟨rfl,rfl⟩|⟨rfl,rfl⟩|⟨rfl,rfl⟩
     ·refine RB.mono kp (fun c hc=>?_) (fun g hg=>hsame g (have hg:=hg.resolve_right (hP _ _);?_)) (fun hp=>by cases hp) (hw.cE 0 _ at0)
      ·have:c=0∨c=1:=by simpa[aN.ids,AV.ids] using hc
       grind
      grind
     ·refine RB.mono kp (fun c hc=>?_) (fun g hg=>hsame g (have hg:=hg.resolve_right (hP _ _);?_)) (fun hp=>by cases hp) (hw.cE 1 _ at1)
      ·grind [aN.ids]
      grind
     grind
    ·have old:∀b k,(aQ (List.replicate m none) [(0,some (aN.var tv (.mp 1))),(1,some (.map (.int .i64) vt es)),(X,some (.row (ρb.t 26) 8 (.int .i64) (ji es)))])[b]? =some (some k)→b≠X→b=0∨b=1:=by
      grind [kH]
     grind
    ·rcases kH hb' with⟨rfl,_⟩|⟨rfl,_⟩|⟨rfl,_⟩
     ·exact hw.jF 0 _ g at0 (g_old 0 g (Or.inl rfl) hg).2 hS'
     ·exact hw.jF 1 _ g at1 (g_old 1 g (Or.inr rfl) hg).2 hS'
     ·rw[eX.1] at hg
      have:=hog g hg
      have:=hw.slt g hS'
      omega
   ·rw[outE]
    refine⟨hb.os,⟨hb.tape,fun m=>absurd m hmd⟩,hb.output,hb.size,fun g hg _=>hsame g hg,fun _ h=>h,fun g hg=>Or.inl hg,fun g hg=>?_,fun b hb16=>eN b (by omega)⟩
    obtain⟨b,k,hbk,hg⟩:=hg
    have hg:=hg.resolve_right (hP _ _)
    rcases kH hbk with⟨rfl,_⟩|⟨rfl,_⟩|⟨rfl,_⟩
    ·exact Or.inl ⟨0,_,at0,Or.inl (g_old 0 g (Or.inl rfl) hg).2⟩
    ·exact Or.inl ⟨1,_,at1,Or.inl (g_old 1 g (Or.inr rfl) hg).2⟩
    grind
 grind
end Go.Ax
namespace Go.Ax
theorem yD{U R β:Type}{F:(U→Option (cQ β R))→U→Option (cQ β R)}{f:β→Option R}{n:Nat}(Q:Option R→Prop)(len:Nat)(at_:Nat→U)(b:β)(C:Nat→Prop)(P:R→Prop)
 (hn:len<n)
 (step:∀rec i,i<len→(C i∧F rec (at_ i)=rec (at_ (i+1)))∨∃r,P r∧F rec (at_ i)=some (.ret r))
 (stop:∀rec,F rec (at_ len)=some (.brk b)) (h1:(∀j,j<len→C j)→Q (f b)) (h2:∀r,P r→Q (some r)):Q (aG (aK F n (at_ 0)) f):=by
 rcases Pd (L:=aK F) rfl len at_ b C P step stop n hn with⟨h3,e⟩|⟨r,h3,e⟩
 ·rw[e,aH];grind
 ·rw[e,eT];grind
theorem lN{t:Ty}{l:List t.den}{i:Nat}(h:i<l.length):nth t l (i:Int)∈l:=cT (t:=t) h▸jn h
theorem Ho{E:Type}(t:Ty)(p:t.den→E→Option (Bool×E))(l:List t.den)(e0:E)(q:t.den→Bool)(hp:∀x∈l,p x e0=some (q x,e0))(hl:l.length≤aE):
 ∃r:Int,aG (U:=E) ((aK fun rec(u:List t.den×Int×Int×E)=>match u with|⟨e,d,c,f⟩=>if(decide (c<d))=true then(if 0≤c then(if c<(List.length e:Int) then(Option.bind (p (nth t e c) f) fun⟨a,b⟩=>if a=true then(bZ (some (c,b))) else(rec (e,d,aZ (c+(1:Int)),b))) else none) else none) else(some (.brk f))) (Int.toNat (List.length l:Int)+1) (l,(List.length l:Int),(0:Int),e0)) (fun v1=>some ((-1:Int),v1))=some (r,e0)∧(0≤r↔∃x∈l,q x=true):=by
 have hB:aE=140737488355328:=rfl
 refine yD (fun z=>∃r:Int,z=some (r,e0)∧(0≤r↔∃x∈l,q x=true)) l.length (fun i=>(l,(l.length:Int),(i:Int),e0)) e0 (fun i=>∀h:i<l.length,q l[i]=false) (fun r:Int×E=>∃i,∃h:i<l.length,q l[i]=true∧r=((i:Int),e0)) (by omega) ?step ?stop ?h1 ?h2
 case step=>
  intro rec i hi
  dsimp only
  have d1:decide ((i:Int)<(l.length:Int))=true:=cu (by omega)
  rw[aA d1,aA (dD i),aA (show(i:Int)<(l.length:Int) by omega),hp _ (lN hi),aJ]
  dsimp only
  rw[cT (t:=t) hi]
  cases hq:q l[i] with
  |true=>exact Or.inr ⟨_,⟨i,hi,hq,rfl⟩,rfl⟩
  |
   false=>
   rw[aC (by decide),bu (by omega)]
   grind
 case stop=>
  grind
 case h1=>
  intro h1
  refine⟨-1,rfl,?_⟩
  constructor
  ·grind
  ·rintro⟨x,hx,hq⟩
   obtain⟨j,hj,rfl⟩:=gH hx
   grind
 case h2=>
  rintro _ ⟨i,hi,hq,rfl⟩<;>grind
theorem YV{E:Type}(t:Ty)(p:t.den→E→Option Bool)(l:List t.den)(e0:E)(q:t.den→Bool)(hp:∀x∈l,p x e0=some (q x))(hl:l.length≤aE):
 ∃r:Int,aG (U:=Unit) ((aK fun rec(u:List t.den×E×Int×Int)=>match u with|⟨c,d,b,a⟩=>if(decide (a<b))=true then(if 0≤a then(if a<(List.length c:Int) then(Option.bind (p (nth t c a) d) fun y4=>if y4=true then(bZ (some a)) else(rec (c,d,b,aZ (a+(1:Int))))) else none) else none) else(some (.brk ()))) (Int.toNat (List.length l:Int)+1) (l,e0,(List.length l:Int),(0:Int))) (fun _=>some (-1:Int))=some r∧(0≤r↔∃x∈l,q x=true):=by
 have hB:aE=140737488355328:=rfl
 refine yD (fun z=>∃r:Int,z=some r∧(0≤r↔∃x∈l,q x=true)) l.length (fun i=>(l,e0,(l.length:Int),(i:Int))) () (fun i=>∀h:i<l.length,q l[i]=false) (fun r:Int=>∃i,∃h:i<l.length,q l[i]=true∧r=(i:Int)) (by omega) ?step ?stop ?h1 ?h2
 case step=>
  intro rec i hi
  dsimp only
  have d1:decide ((i:Int)<(l.length:Int))=true:=cu (by omega)
  rw[aA d1,aA (dD i),aA (show(i:Int)<(l.length:Int) by omega),hp _ (lN hi),aJ,cT (t:=t) hi]
  cases hq:q l[i] with
  |true=>exact Or.inr ⟨_,⟨i,hi,hq,rfl⟩,rfl⟩
  |
   false=>
   rw[aC (by decide),bu (by omega)]
   grind
 case stop=>
  grind
 case h1=>
  intro h1
  refine⟨-1,rfl,?_⟩
  constructor
  ·grind
  ·rintro⟨x,hx,hq⟩
   obtain⟨j,hj,rfl⟩:=gH hx
   grind
 grind
theorem Re(t:Ty)(p:t.den→Option Bool)(l:List t.den)(q:t.den→Bool)(hp:∀x∈l,p x=some (q x))(hl:l.length≤aE):
 ∃r:Int,aG (U:=Unit) ((aK fun rec(u:List t.den×Int×Int)=>match u with|⟨c,b,a⟩=>if(decide (a<b))=true then(if 0≤a then(if a<(List.length c:Int) then(Option.bind (p (nth t c a)) fun y4=>if y4=true then(bZ (some a)) else(rec (c,b,aZ (a+(1:Int))))) else none) else none) else(some (.brk ()))) (Int.toNat (List.length l:Int)+1) (l,(List.length l:Int),(0:Int))) (fun _=>some (-1:Int))=some r∧(0≤r↔∃x∈l,q x=true):=by
 have hB:aE=140737488355328:=rfl
 refine yD (fun z=>∃r:Int,z=some r∧(0≤r↔∃x∈l,q x=true)) l.length (fun i=>(l,(l.length:Int),(i:Int))) () (fun i=>∀h:i<l.length,q l[i]=false) (fun r:Int=>∃i,∃h:i<l.length,q l[i]=true∧r=(i:Int)) (by omega) ?step ?stop ?h1 ?h2
 case step=>
  intro rec i hi
  dsimp only
  have d1:decide ((i:Int)<(l.length:Int))=true:=cu (by omega)
  rw[aA d1,aA (dD i),aA (show(i:Int)<(l.length:Int) by omega),hp _ (lN hi),aJ,cT (t:=t) hi]
  cases hq:q l[i] with
  |true=>exact Or.inr ⟨_,⟨i,hi,hq,rfl⟩,rfl⟩
  |
   false=>
   rw[aC (by decide),bu (by omega)]
   grind
 case stop=>
  grind
 case h1=>
  intro h1
  refine⟨-1,rfl,?_⟩
  constructor
  ·grind
  ·rintro⟨x,hx,hq⟩
   obtain⟨j,hj,rfl⟩:=gH hx
   grind
 grind
theorem NI(t:Ty)(p:t.den→t.den→Option Bool)(x y:List t.den)(hp:∀a∈x,∀b∈y,∃r,p a b=some r)(hl:x.length=y.length→x.length≤aE):
 ∃r:Bool,(if(!decide ((List.length x:Int)=(List.length y:Int)))=true then(some false) else(aG (U:=Unit) ((aK fun rec(u:List t.den×List t.den×Int×Int)=>match u with|⟨d,c,b,a⟩=>if(decide (a<b))=true then(if 0≤a then(if a<(List.length c:Int) then(if 0≤a then(if a<(List.length d:Int) then(Option.bind (p (nth t c a) (nth t d a)) fun y4=>if(!y4)=true then(bZ (some false)) else(rec (d,c,b,aZ (a+(1:Int))))) else none) else none) else none) else none) else(some (.brk ()))) (Int.toNat (List.length x:Int)+1) (y,x,(List.length x:Int),(0:Int))) fun _=>some true))=some r:=by
 have hB:aE=140737488355328:=rfl
 by_cases hxy:x.length=y.length
 ·have hl:=hl hxy
  rw[aC (by grind)]
  refine yD (fun z=>∃r:Bool,z=some r) x.length (fun i=>(y,x,(x.length:Int),(i:Int))) () (fun _=>True) (fun _:Bool=>True) (by omega) ?step ?stop ?h1 ?h2
  case step=>
   intro rec i hi
   dsimp only
   obtain⟨r,hr⟩:=hp _ (lN hi) _ (lN (t:=t) (l:=y) (i:=i) (by omega))
   rw[aA (cu (by omega)),aA (dD i),aA (by omega),aA (dD i),aA (by omega),hr,aJ]
   cases r with
   |false=>exact Or.inr ⟨false,trivial,rfl⟩
   |
    true=>
    rw[aC (by decide),bu (by omega)]
    grind
  case stop=>
   grind
  case h1=>grind
  grind
 ·exact⟨false,aA (by grind)⟩
theorem Hd(t:Ty)(q:t.den→t.den→Bool)(x y:List t.den)(hl:x.length=y.length→x.length≤aE):
 ∃r:Bool,(if(!decide ((List.length x:Int)=(List.length y:Int)))=true then(some false) else(aG (U:=Unit) ((aK fun rec(u:List t.den×List t.den×Int×Int)=>match u with|⟨c,d,b,a⟩=>if(decide (a<b))=true then(if 0≤a then(if a<(List.length c:Int) then(if 0≤a then(if a<(List.length d:Int) then(if(!q (nth t c a) (nth t d a))=true then(bZ (some false)) else(rec (c,d,b,aZ (a+(1:Int))))) else none) else none) else none) else none) else(some (.brk ()))) (Int.toNat (List.length x:Int)+1) (x,y,(List.length x:Int),(0:Int))) fun _=>some true))=some r:=by
 have hB:aE=140737488355328:=rfl
 by_cases hxy:x.length=y.length
 ·have hl:=hl hxy
  rw[aC (by grind)]
  refine yD (fun z=>∃r:Bool,z=some r) x.length (fun i=>(x,y,(x.length:Int),(i:Int))) () (fun _=>True) (fun _:Bool=>True) (by omega) ?step ?stop ?h1 ?h2
  case step=>
   intro rec i hi
   dsimp only
   rw[aA (cu (by omega)),aA (dD i),aA (by omega),aA (dD i),aA (by omega)]
   cases q (nth t x i) (nth t y i) with
   |false=>exact Or.inr ⟨false,trivial,rfl⟩
   |
    true=>
    rw[aC (by decide),bu (by omega)]
    grind
  case stop=>
   grind
  case h1=>grind
  grind
 ·exact⟨false,aA (by grind)⟩
end Go.Ax
namespace Go.Ax
theorem eR{α:Type}{kt:Ty}{k:kt.den}{v:α}:∀{es:List (kt.den×α)}{p:kt.den×α},p∈bB kt k v es→p=(k,v)∨p∈es
 |
  [],p,h=>by
  grind [bB]
 |
  e::es,p,h=>by
  unfold bB at h
  split at h
  ·rcases List.mem_cons.1 h with h|h
   ·exact Or.inl h
   ·exact Or.inr (dT _ h)
  ·rcases List.mem_cons.1 h with h|h
   ·exact Or.inr (h▸du ..)
   ·rcases eR h with h|h
    ·exact Or.inl h
    ·exact Or.inr (dT _ h)
def VR(n:Nat)(M:List (List UInt8×Int)):Prop:=∀p∈M,0≤p.2∧p.2<(n:Int)
theorem VR.get{n:Nat}{M:List (List UInt8×Int)}(h:VR n M){k:List UInt8}(hk:ck .str k M=true):0≤bw .str (.int .i64) k M∧bw .str (.int .i64) k M<(n:Int):=by
 obtain⟨i,hi⟩:=oK (kt:=.str) (vt:=.int .i64) rfl hk
 exact h _ (lP hi)
theorem j9(t:Ty)(nm:t.den→Option (List UInt8))(g:t.den→List UInt8)(hn:∀x,nm x=some (g x))(l:List t.den)(hl:l.length≤aE):
 ∃M b,VR l.length M∧aG (U:=Bool×List (List UInt8×Int)) ((aK fun rec(u:Bool×List t.den×Int×Int×List (List UInt8×Int))=>match u with|⟨e,c,b,a,d⟩=>if(decide (a<b))=true then(if 0≤a then(if a<(List.length c:Int) then(Option.bind (nm (nth t c a)) fun y4=>if(ck .str y4 d)=true then(rec (true,c,b,aZ (a+(1:Int)),d)) else(Option.bind (nm (nth t c a)) fun y5=>if List.length d+1≤aE then(rec (e,c,b,aZ (a+(1:Int)),bB .str y5 a d)) else none)) else none) else none) else(some (.brk (e,d))):Nat→_→Option (cQ (Bool×List (List UInt8×Int)) (Option (List (List UInt8×Int))×Bool))) (Int.toNat (List.length l:Int)+1) (false,l,(List.length l:Int),(0:Int),([]:List (List UInt8×Int)))) (fun u=>match u with|⟨b,a⟩=>some (some a,b))=some (some M,b):=by
 have hB:aE=140737488355328:=rfl
 suffices key:∀(n i:Nat)(e:Bool)(d:List (List UInt8×Int)),l.length -i<n→i≤l.length→d.length≤i→VR l.length d→∃M b,VR l.length M∧aG (U:=Bool×List (List UInt8×Int)) ((aK fun rec(u:Bool×List t.den×Int×Int×List (List UInt8×Int))=>match u with|⟨e,c,b,a,d⟩=>if(decide (a<b))=true then(if 0≤a then(if a<(List.length c:Int) then(Option.bind (nm (nth t c a)) fun y4=>if(ck .str y4 d)=true then(rec (true,c,b,aZ (a+(1:Int)),d)) else(Option.bind (nm (nth t c a)) fun y5=>if List.length d+1≤aE then(rec (e,c,b,aZ (a+(1:Int)),bB .str y5 a d)) else none)) else none) else none) else(some (.brk (e,d))):Nat→_→Option (cQ (Bool×List (List UInt8×Int)) (Option (List (List UInt8×Int))×Bool))) n (e,l,(List.length l:Int),(i:Int),d)) (fun u=>match u with|⟨b,a⟩=>some (some a,b))=some (some M,b) from
  key _ 0 false [] (by omega) (by omega) (by simp) fun p hp=>by cases hp
 intro n
 induction n with
 |zero=>grind
 |
  succ n ih=>
  intro i e d hn' hi hd hv
  rw[aM]
  generalize aK _ n=rec at ih ⊢
  dsimp only
  by_cases h:i<l.length
  ·rw[aA (cu (by omega)),aA (dD i),aA (show(i:Int)<(l.length:Int) by omega),hn,aJ,bu (by omega)]
   split
   ·exact ih (i+1) true d (by omega) (by omega) (by omega) hv
   ·rw[aJ,aA (by omega)]
    refine ih (i+1) e _ (by omega) (by omega) (cG (dr (kt:=.str)) (by omega)) fun p hp=>?_
    rcases eR (kt:=.str) hp with rfl|hp
    ·grind
    ·exact hv p hp
  ·rw[aC (by grind)]
   exact⟨d,e,hv,rfl⟩
end Go.Ax
namespace Go.Ax
theorem cD{S U R:Type}{L:Nat→U→Option R}{F:(U→Option R)→U→Option R}(e:L=aK F)(P:R→Prop)(len:Nat)(st:Nat→S→U)(I:Nat→S→Prop)
 (step:∀rec i s,i<len→I i s→(∀s',I (i+1) s'→W (rec (st (i+1) s')) P)→W (F rec (st i s)) P)
 (stop:∀rec s,I len s→W (F rec (st len s)) P):∀n i s,len -i<n→i≤len→I i s→W (L n (st i s)) P:=by
 subst e
 intro n
 induction n with
 |zero=>grind
 |
  succ n ih=>
  grind [aM]
theorem W.X1{R:Type}{x:Option R}{P:R→Prop}(h:∃r,x=some r)(hp:∀r,P r):W x P:=h.imp fun r h=>⟨h,hp r⟩
theorem W.bt{A R:Type}{x:Option A}{f:A→Option R}{P:R→Prop}(h:∃r,x=some r)(hp:∀r,W (f r) P):W (Option.bind x f) P:=pY.2 (W.X1 h hp)
theorem gG{α:Type}(l:List α)(c:Nat)(h:l.length*c≤aE):(if(List.length ([]:List α)+List.length l)*c≤aE then some l else none)=some l:=by
 grind
end Go.Ax
namespace Go.Ax
end Go.Ax
namespace Go.Ax
theorem As{S U R:Type}{L:Nat→U→Option R}{F:(U→Option R)→U→Option R}(e:L=aK F)(Q:Nat→S→R→Prop)(len:Nat)(st:Nat→S→U)(I:Nat→S→Prop)
 (step:∀rec i s,i<len→I i s→(∀s',I (i+1) s'→W (rec (st (i+1) s')) (Q (i+1) s'))→W (F rec (st i s)) (Q i s))
 (stop:∀rec s,I len s→W (F rec (st len s)) (Q len s)):∀n i s,len -i<n→i≤len→I i s→W (L n (st i s)) (Q i s):=by
 subst e
 intro n
 induction n with
 |zero=>intro i s h;omega
 |
  succ n ih=>
  intro i s hn hi hI
  rw[aM]
  by_cases h:i<len
  ·exact step _ i s h hI fun s' h'=>ih (i+1) s' (by omega) (by omega) h'
  ·have:i=len:=by omega
   subst this
   exact stop _ s hI
end Go.Ax
namespace Go.Ax
def qy(W:World):Env:=⟨fun _=>none,fun _=>undef,fun _=>.unit,fun g=>g<W.heap.size,fun _ _=>False⟩
theorem aT.collect{α:Type}{r:List Value→α→Prop}{k:Nat}:∀(n:Nat)(cs:List Value),cs.length=n*k→(∀i,i<n→∃y,r ((cs.drop (i*k)).take k) y)→∃ys,ys.length=n∧aT r cs ys
 |0,cs,hl,_=>⟨[],rfl,uU (by grind)⟩
 |
  n+1,cs,hl,h=>by
  obtain⟨y,hy⟩:=h 0 (by omega)
  rw[Nat.zero_mul,gv] at hy
  obtain⟨ys,h1,h2⟩:=aT.collect (k:=k) n (cs.drop k) (by grind) (fun i hi=>by
   obtain⟨z,hz⟩:=h (i+1) (by omega)
   refine⟨z,?_⟩
   rw[jM]
   rw[show k+i*k=(i+1)*k from by grind]
   exact hz)
  exact⟨y::ys,by simp[h1],cs.take k,cs.drop k,(lh k cs).symm,hy,h2⟩
theorem cells?_get{w:World}{base:Nat}{a:Addr}{n:Nat}{cs:List Value}(h:w.cells? base a n=some cs):cs.length=n∧∀j v,cs[j]? =some v→w.cell? (a.add j)=some v:=by
 unfold World.cells? at h
 split at h
 ·have hl:=mapM_some_length h
  refine⟨by grind,fun j v hj=>?_⟩
  have hlt:j<n:=by
   grind
  have:=mapM_some_get h j j (by grind)
  grind
 grind
theorem Addr.add_add(a:Addr)(i j:Nat):(a.add i).add j=a.add (i+j):=by
 grind [Addr.add]
theorem aT.EL{α:Type}{w:World}{r:List Value→α→Prop}{a:Addr}{k:Nat}:∀(n s:Nat),(∀i,i<n→∃c y,w.cells? 0 (a.add ((s+i)*k)) k=some c∧r c y)→∃cs ys,ys.length=n∧aT r cs ys∧∀j v,cs[j]? =some v→w.cell? (a.add (s*k+j))=some v
 |0,s,_=>⟨[],[],rfl,rfl,fun j v hj=>by simp at hj⟩
 |
  n+1,s,h=>by
  obtain⟨c,y,h1,h2⟩:=h 0 (by omega)
  rw[Nat.add_zero] at h1
  obtain⟨hl,hc⟩:=cells?_get h1
  obtain⟨cs,ys,g1,g2,g3⟩:=aT.EL n (s+1) (fun i hi=>by
   obtain⟨c',y',q1,q2⟩:=h (i+1) (by omega)
   exact⟨c',y',by rw[show s+1+i=s+(i+1) from by omega];exact q1,q2⟩)
  refine⟨c++cs,y::ys,by simp[g1],⟨c,cs,rfl,h2,g2⟩,?_⟩
  intro j v hj
  rw[List.getElem?_append] at hj
  split at hj
  ·have:=hc j v hj
   rwa [Addr.add_add] at this
  ·rename_i hge
   have:=g3 _ v hj
   rw[hl] at this hge
   rw[show(s+1)*k+(j -k)=s*k+j from by rw[fp,Nat.one_mul];omega] at this
   exact this
section
variable{H:Type} {enc:TypeId×Value→H} {P:Program} {G:bO} (T:bD P G) {W:World} {spare:Nat→Bool} {held:Bool}
include T
theorem bD.cellsOf{t:TypeId}{td:TD}(h:G.at t=some td):P.cellsOf t=td.ty.size:=by
 obtain⟨i,_,h1,_,h2,_⟩:=T.info h
 simp[Program.cellsOf,h1,h2]
theorem bD.EM{t:TypeId}{td:TD}(ht:G.at t=some td)(hs:td.ty= .bool):P.underlying t=some .bool:=by
 obtain⟨ii,dd,_,h1,_,h2,_⟩:=T.info ht
 have acO:=dc h2
 rw[h1]
 cases hd:dd with
 |bool=>rfl
 |struct fs=>grind [di,Ty.isAgg]
 |array n e=>grind [di,Ty.isAgg]
 |slice e=>grind [cq,Ty.same]
 |map k e=>grind [cq,Ty.same]
 |_=>subst hd;simp[cq,Ty.same,hs] at h2
def Ty.cS:Ty→Bool
 | .arr _ t=>t.cS
 | .slice _ t=>t.cS
 | .pair a b=>a.cS&&b.cS
 | .aR _| .fns _| .map _ _=>false
 |_=>true
theorem yE:∀(fuel:Nat)(t:TypeId)(td:TD)(cs:List Value)(d:DataW H)(ps:List MemPlace),G.at t=some td→td.ty.cS=true→DataW.trod enc P W 0 spare held fuel t cs=some (d,ps)→(∀n∈d.weights P t,n≤aE)→
 ∃x:td.ty.den,Rel W (fun g=>g<W.heap.size) td.ty cs x
 |0,t,td,cs,d,ps,_,_,h,_=>by trivial
 |
  fuel+1,t,td,cs,d,ps,ht,hp,h,hw=>by
  have ih:=fun t td cs d ps=>yE fuel t td cs d ps
  obtain⟨ty,te,te2⟩:=td
  simp only at hp
  cases ty with
  |
   int k=>
   obtain⟨n,e1,e2,e3⟩:=DataW.trod_int (T.intOf ht rfl) h
   simp only[Lit.wf,aV,mW] at e3
   exact⟨n,e1,e3⟩
  |
   bool=>
   obtain⟨b,e1,e2⟩:=DataW.trod_bool (T.EM ht rfl) h
   exact⟨b,e1⟩
  |
   str=>
   have hu:=T.strOf ht rfl
   unfold DataW.trod at h
   rw[hu] at h
   split at h<;>simp_all
   obtain⟨_,e1,e2⟩:=h
   subst e1
   rename_i s _
   have hlen:s.data.toList.length≤aE:=hw s.data.toList.length (by simp[DataW.weights])
   exact⟨s.data.toList,by simp,hlen⟩
  |
   arr n u=>
   obtain⟨tde,h1,h2,h3⟩:=T.ov ht rfl
   simp only at h1 h2 h3
   subst h3
   obtain⟨xs,m,e1,e2,e3,e4,e5⟩:=DataW.trod_array h1 h
   cases e1;cases e2
   have hcz:=T.cellsOf h2
   have hall:∀i,i<n→∃y,Rel W (fun g=>g<W.heap.size) tde.ty ((cs.drop (i*tde.ty.size)).take tde.ty.size) y:=by
    intro i hi
    have hx:=e5 i hi
    have hlt:i<xs.length:=by omega
    rw[oe hlt,hcz] at hx
    refine ih te tde _ xs[i].1 xs[i].2 h2 hp hx (fun q hq=>hw q ?_)
    have key:∀(l:List (DataW H))(i:Nat)(d:DataW H),l[i]? =some d→∀q∈d.weights P te,q∈DataW.weightsAll P te l:=by
     intro l
     induction l with
     |nil=>grind
     |
      cons a l ihl=>
      grind [DataW.weightsAll]
    simp only[DataW.weights,h1]
    exact key _ i _ (by grind) q hq
   have hl:cs.length=n*tde.ty.size:=by
    rw[e3];exact T.cellsOf ht
   obtain⟨ys,y1,y2⟩:=aT.collect n cs hl hall
   exact⟨ys,y1,y2⟩
  |
   slice bs u=>
   obtain⟨te',ie,h1,h2,h3,h4,h5,h6,h7⟩:=T.cI ht rfl
   simp only at h1 h2 h4
   subst h3
   have hcz:=T.cellsOf h2
   rcases DataW.trod_slice h1 h with⟨e1,e2⟩|⟨a,len,cap,elems,rest,m,e1,e2,e3,e4,e5,e6,e7,e8,_⟩
   ·exact⟨[],none,0,e1,cL _,by simp,by simp,Or.inl rfl⟩
   ·cases e1;cases e3
    have hb:P.bytesOf te=bs:=by simp[Program.bytesOf,h4,h5]
    have hw0:(elems.length+rest.length)*bs≤aE:=by
     simp_all[DataW.weights]
    have hlb:len*bs≤aE:=cG (fM _ (by omega)) hw0
    have hlm:len≤aE:=cG (Nat.le_mul_of_pos_right _ h7) hlb
    have hall:∀i,i<len→∃c y,W.cells? 0 (a.add ((0+i)*te'.ty.size)) te'.ty.size=some c∧Rel W (fun g=>g<W.heap.size) te'.ty c y:=by
     intro i hi
     have hx:=e8 i hi
     have hlt:i<elems.length:=by omega
     rw[oe hlt,hcz] at hx
     simp only[qC] at hx
     obtain⟨c,c1,c2⟩:=hx
     obtain⟨y,hy⟩:=ih te te' c elems[i].1 elems[i].2 h2 hp c2 (fun q hq=>hw q (by
      have key:∀(l:List (DataW H))(i:Nat)(d:DataW H),l[i]? =some d→∀q∈d.weights P te,q∈DataW.weightsAll P te l:=by
       intro l
       induction l with
       |nil=>grind
       |
        cons a l ihl=>
        grind [DataW.weightsAll]
      simp only[DataW.weights,h1,fe,j4]
      exact Or.inr (Or.inl (key _ i _ (by grind) q hq))))
     grind
    obtain⟨cs',ys,g1,g2,g3⟩:=aT.EL (w:=W) (a:=a) len 0 hall
    subst g1
    rw[e2]
    refine⟨ys,some a,cap,rfl,e5,hlb,hlm,?_⟩
    cases hys:ys with
    |nil=>grind
    |
     cons y0 ys0=>
     right
     have hcl:=aT.len (n:=te'.ty.size) (fun _ _ h=>Rel.len h) g2
     have hpos:0<cs'.length:=by simp_all
     have hc0:=g3 0 cs'[0] (by grind)
     simp only[Nat.zero_mul,Nat.add_zero,Addr.add,bH] at hc0
     have hspot:a.spot=none∧a.block<W.heap.size:=by
      unfold World.cell? at hc0
      split at hc0
      ·rename_i c _ _ hh
       split at hc0
       ·cases hc0
       ·rename_i hs
        exact⟨by simp_all,(Array.getElem?_eq_some_iff.1 hh).1⟩
      grind
     obtain⟨b,o,sp⟩:=a
     simp only at hspot
     obtain⟨hs,hblt⟩:=hspot
     subst hs
     refine⟨b,o,cs',rfl,hblt,?_,by grind⟩
     intro j v hj
     grind
  |
   pair ta tb=>
   obtain⟨fs,h1,h2⟩:=T.structOf ht rfl
   obtain⟨xs,m,e1,e2,e3,e4,e5⟩:=DataW.trod_struct h1 h
   cases e1;cases e2
   have hl:cs.length=(Ty.pair ta tb).size:=by rw[e3];exact T.cellsOf ht
   have key:∀(l:List Field)(ty:Ty)(off:Nat)(ys:List (DataW H×List MemPlace)),cd G l off ty=true→ty.cS=true→off+ty.size≤cs.length→ys.length=l.length→
    (∀(i:Nat)(f:Field),l[i]? =some f→DataW.trod enc P W 0 spare held fuel f.type ((cs.drop f.offset).take (P.cellsOf f.type))=ys[i]?)→
    (∀n∈DataW.weightsEach P (l.map (·.type)) (ys.map (·.1)),n≤aE)→∃x:ty.den,Rel W (fun g=>g<W.heap.size) ty ((cs.drop off).take ty.size) x:=by
    intro l
    induction l with
    |
     nil=>
     intro ty off ys hf _ _ _ _ _
     cases ty<;>simp[cd] at hf
     exact⟨(),by trivial⟩
    |
     cons f l ihl=>
     intro ty off ys hf hpu hle hyl hrd hwe
     cases ty with
     |
      pair a b=>
      simp only[cd,aV] at hf
      obtain⟨⟨⟨g1,g2⟩,g3⟩,g4⟩:=hf
      simp only[Ty.cS,aV] at hpu
      cases ys with
      |nil=>grind
      |
       cons y ys=>
       split at g1
       ·rename_i td htd
        have:=Ty.aB g1;subst this
        have g2:=bR g2
        have hcz:=T.cellsOf htd
        simp only[Ty.size] at hle
        have hr0:=hrd 0 f rfl
        rw[g2,hcz] at hr0
        simp only[List.getElem?_cons_zero] at hr0
        simp only[dC,DataW.weightsEach,j4] at hwe
        obtain⟨x1,hx1⟩:=ih f.type td _ y.1 y.2 htd hpu.1 hr0 (fun n hn=>hwe n (Or.inl hn))
        obtain⟨x2,hx2⟩:=ihl b (off+td.ty.size) ys g4 hpu.2 (by omega) (by grind) (fun i f' hf'=>by
         have:=hrd (i+1) f' (by grind)
         grind) (fun n hn=>hwe n (Or.inr hn))
        refine⟨(x1,x2),(cs.drop off).take td.ty.size,(cs.drop (off+td.ty.size)).take b.size,?_,hx1,hx2⟩
        simp_all[Ty.size,List.take_add]
       grind
     |_=>trivial
   grind [DataW.weights]
  |
   unit=>
   obtain⟨ii,dd,_,hu,hsz,hdo,_⟩:=T.info ht
   cases dd with
   |
    struct fs=>
    obtain⟨xs,m,e1,e2,e3,e4,e5⟩:=DataW.trod_struct hu h
    have hl:cs.length=0:=by rw[e3];exact T.cellsOf ht
    exact⟨(),uU hl⟩
   |slice e=>simp[cq,Ty.same] at hdo
   |array n e=>simp[cq] at hdo
   |map k e=>trivial
   |_=>trivial
  |aR k=>trivial
  |fns n=>trivial
  |map k v=>trivial
theorem kI{base:Nat}{t:TypeId}{td:TD}{v:Value}{d:DataW H}{p:List MemPlace}(ht:G.at t=some td)(hp:td.ty.cS=true)(fJ:Value.okWide P W .any base t v)(h:DataW.Trod enc P W 0 spare held t v d p)(hw:∀n∈d.weights P t,n≤aE):
 ∃x:td.ty.den,RV (qy W) W (.val td.ty x) v∧wf td.ty x:=by
 obtain⟨fuel,h⟩:=h
 obtain⟨x,hx⟩:=yE T fuel t td _ d p ht hp h hw
 refine⟨x,RV.dK ?_,Rel.wf hx⟩
 obtain⟨ii,dd,_,hu,_,hdo,_⟩:=T.info ht
 have acO:=dc hdo
 cases ha:td.ty.isAgg with
 |
  true=>
  rw[ha] at acO
  unfold Value.okWide at fJ
  rw[hu] at fJ
  cases dd<;>simp[di] at acO<;>(obtain⟨cs,e,_⟩:=fJ;subst e;exact Or.inl ⟨ha,cs,rfl,hx⟩)
 |
  false=>
  rw[ha] at acO
  refine Or.inr ⟨ha,?_⟩
  cases v with
  |
   agg cs=>
   unfold Value.okWide at fJ
   rw[hu] at fJ
   cases dd<;>simp[di] at acO<;>simp[Cell.okWide,Cell.ok,hu] at fJ
  |_=>trivial
end
theorem mapM_mono{α β:Type}{f g:α→Option β}:∀{l:List α}{r:List β},(∀x∈l,∀y,f x=some y→g x=some y)→l.mapM f=some r→l.mapM g=some r
 |[],r,_,h=>by grind
 |
  x::l,r,hm,h=>by
  simp only[List.mapM_cons,Option.bind_eq_bind,qC,Option.pure_def,cX] at h ⊢
  obtain⟨y,h1,ys,h2,h3⟩:=h
  exact⟨y,hm x (by simp) y h1,ys,mapM_mono (fun z hz=>hm z (by simp[hz])) h2,h3⟩
theorem cells?_stay{W W':World}(hs:∀b,b<W.heap.size→W'.heap[b]? =W.heap[b]?){a:Addr}{n:Nat}{cs:List Value}(h:W.cells? 0 a n=some cs):W'.cells? 0 a n=some cs:=by
 unfold World.cells? at h ⊢
 split at h
 ·rename_i hb
  rw[aA hb]
  grind [mapM_mono,World.cell?]
 grind
section
variable{H:Type} {enc:TypeId×Value→H} {P:Program} {G:bO} (T:bD P G) {W W':World} (hs:∀b,b<W.heap.size→W'.heap[b]? =W.heap[b]?)
include T hs
theorem uT:∀(fuel:Nat)(t:TypeId)(td:TD)(cs:List Value)(x:DataW H×List MemPlace),G.at t=some td→td.ty.cS=true→DataW.trod enc P W 0 (fun _=>true) true fuel t cs=some x→DataW.trod enc P W' 0 (fun b=>decide (b<W.heap.size)) true fuel t cs=some x
 |0,t,td,cs,x,_,_,h=>by trivial
 |
  fuel+1,t,td,cs,x,ht,hp,h=>by
  have ih:=fun t td cs x=>uT fuel t td cs x
  obtain⟨ty,te,te2⟩:=td
  simp only at hp
  cases ty with
  |
   int k=>
   have hu:=T.intOf ht rfl
   unfold DataW.trod at h ⊢
   rw[hu] at h ⊢
   split at h<;>simp_all
  |
   bool=>
   have hu:=T.EM ht rfl
   unfold DataW.trod at h ⊢
   rw[hu] at h ⊢
   split at h<;>simp_all
  |
   str=>
   have hu:=T.strOf ht rfl
   unfold DataW.trod at h ⊢
   rw[hu] at h ⊢
   split at h<;>simp_all
  |
   arr n u=>
   obtain⟨tde,h1,h2,h3⟩:=T.ov ht rfl
   simp only at h1 h2 h3
   subst h3
   unfold DataW.trod at h ⊢
   rw[h1] at h ⊢
   simp only at h ⊢
   split at h
   ·rename_i hl
    rw[aA hl]
    simp only[fm] at h ⊢
    obtain⟨xs,g1,g2⟩:=h
    exact⟨xs,mapM_mono (fun i _ y hy=>ih te tde _ y h2 hp hy) g1,g2⟩
   grind
  |
   slice bs u=>
   obtain⟨te',ie,h1,h2,h3,h4,h5,h6,h7⟩:=T.cI ht rfl
   simp only at h1 h2 h4
   subst h3
   have hcz:=T.cellsOf h2
   unfold DataW.trod at h ⊢
   rw[h1] at h ⊢
   split at h
   all_goals first
    |(cases h;rfl)
    |skip
   all_goals try (simp_all;done)
   rename_i e0 a len cap heq0
   have he0:e0=te:=by grind
   subst he0
   simp only[bH] at h
   simp only
   split at h
   ·rename_i hc
    rw[aA hc]
    simp only[qC,fm] at h ⊢
    obtain⟨elems,g1,rest,g2,g3⟩:=h
    have step:∀(i:Nat)(y:DataW H×List MemPlace),(W.cells? 0 (a.add (i*P.cellsOf e0)) (P.cellsOf e0)).bind (DataW.trod enc P W 0 (fun _=>true) true fuel e0)=some y→(W'.cells? 0 (a.add (i*P.cellsOf e0)) (P.cellsOf e0)).bind (DataW.trod enc P W' 0 (fun b=>decide (b<W.heap.size)) true fuel e0)=some y:=by
     intro i y hy
     simp only[qC] at hy ⊢
     obtain⟨c,c1,c2⟩:=hy
     exact⟨c,cells?_stay hs c1,ih e0 te' c y h2 hp c2⟩
    refine⟨elems,mapM_mono (fun i _ y hy=>step i y hy) g1,rest,?_,g3⟩
    by_cases hz:cap -len=0
    ·grind
    ·have hblk:a.block<W.heap.size:=by
      obtain⟨k,hk⟩:∃k,cap -len=k+1:=⟨cap -len -1,by omega⟩
      rw[hk,List.range_succ_eq_map] at g2
      simp only[List.mapM_cons,Option.bind_eq_bind,qC] at g2
      obtain⟨y,⟨c,c1,_⟩,_⟩:=g2
      obtain⟨l1,l2⟩:=cells?_get c1
      have hpos:0<c.length:=by grind
      have:=l2 0 c[0] (by grind)
      grind [World.cell?,Addr.add]
     simp only[hblk,decide_true,bH]
     grind [mapM_mono]
   grind
  |
   pair ta tb=>
   obtain⟨fs,h1,h2⟩:=T.structOf ht rfl
   unfold DataW.trod at h ⊢
   rw[h1] at h ⊢
   simp only at h ⊢
   split at h
   ·rename_i hl
    rw[aA hl]
    simp only[fm] at h ⊢
    obtain⟨xs,g1,g2⟩:=h
    refine⟨xs,mapM_mono (fun f hf y hy=>?_) g1,g2⟩
    have key:∀(l:List Field)(ty:Ty)(off:Nat),cd G l off ty=true→ty.cS=true→∀f∈l,∃td,G.at f.type=some td∧td.ty.cS=true:=by
     intro l
     induction l with
     |nil=>grind
     |
      cons f0 l ihl=>
      intro ty off hfo hpu f hf
      cases ty with
      |
       pair a b=>
       simp only[cd,aV] at hfo
       obtain⟨⟨⟨q1,q2⟩,q3⟩,q4⟩:=hfo
       simp only[Ty.cS,aV] at hpu
       grind [Ty.aB]
      |_=>trivial
    grind
   grind
  |
   unit=>
   obtain⟨ii,dd,_,hu,hsz,hdo,_⟩:=T.info ht
   cases dd with
   |
    struct fs=>
    have hfs:fs.toList= []:=by
     grind [cq,cd]
    simp_all[DataW.trod]
   |slice e=>simp[cq,Ty.same] at hdo
   |array n e=>simp[cq] at hdo
   |map k e=>trivial
   |_=>trivial
  |aR k=>trivial
  |fns n=>trivial
  |map k v=>trivial
theorem od:∀(ts:List TypeId)(vs:List Value)(ds:List (DataW H))(ps:List MemPlace),(∀t∈ts,∃td,G.at t=some td∧td.ty.cS=true)→DataW.TrodAll enc P W 0 (fun _=>true) true ts vs ds ps→DataW.TrodAll enc P W' 0 (fun b=>decide (b<W.heap.size)) true ts vs ds ps
 |
  [],vs,ds,ps,_,h=>by
  cases vs<;>cases ds<;>first|exact h|exact h.elim
 |
  t::ts,vs,ds,ps,ht,h=>by
  cases vs with
  |nil=>cases ds<;>exact h.elim
  |
   cons v vs=>
   cases ds with
   |nil=>exact h.elim
   |
    cons d ds=>
    obtain⟨p,q,⟨fuel,h1⟩,h2,h3⟩:=h
    obtain⟨td,htd,hpd⟩:=ht t (by simp)
    exact⟨p,q,⟨fuel,uT T hs fuel t td _ _ htd hpd h1⟩,od ts vs ds q (fun t' ht'=>ht t' (by simp[ht'])) h2,h3⟩
end
theorem HW.bare{gl:Ctx}{W:World}(n:Nat)(hg:ET gl (qy W) W):HW gl (qy W) W (aQ (List.replicate n none) []):=by
 have no:∀(b:Nat)(k:aN),(aQ (List.replicate n (none:Option aN)) [])[b]? ≠some (some k):=by
  grind [aQ]
 exact⟨fun b k h=>absurd h (no b k),fun b _ k _ _ h=>absurd h (no b k),fun b k _ h=>absurd h (no b k),fun g hg=>hg,hg,fun b k _ h=>absurd h (no b k)⟩
theorem EN{H:Type}{enc:TypeId×Value→H}{P:Program}{G:bO}(T:bD P G){gl:Ctx}{f:FuncId}{fn:Func}{s:ChangeSpec}{W:World}{args:Array Value}{ds gs:List (DataW H)}{before:List MemPlace}{avs:List AV}{m:Nat}{bt:TypeId}
 (hc:Fc P gl f avs (aQ (List.replicate m none) []) (.ret (.val .bool true)) (db m [])) (hv:ko (qy W) W avs args.toList) (hg:ET gl (qy W) W)
 (hW:DataW.Whole enc P fn.params.toList s.vars false W args.toList ds gs before) (hvars:s.vars= []) (hpt:∀t∈fn.params.toList,∃td,G.at t=some td∧td.ty.cS=true)
 (hrt:fn.resultTypes= #[bt]) (hbt:P.underlying bt=some .bool) (hspec:∀gs,gs= []→(s.fn H (ds++gs)).results= [.lit (.bool true)]∧(s.fn H (ds++gs)).args=ds∧(s.fn H (ds++gs)).vars= []):
 Calls P f args W fun e W'=>∃v,e= .returned v∧s.post enc P fn false true false false W args v W':=by
 have ac3:=hc.2 (qy W) W args.toList hv (HW.bare m hg)
 have e0:args.toList.toArray=args:=by simp
 rw[e0] at ac3
 refine ac3.mono ?_
 rintro e W' ⟨E',hR,_,hX⟩
 cases e with
 |panicked ch=>trivial
 |outgrown=>trivial
 |
  returned v=>
  have hv':=RV.dQ hR
  subst hv'
  refine⟨_,rfl,?_⟩
  have noO:∀g,¬Own (aQ (List.replicate m (none:Option aN)) []) (qy W) g:=by
   rintro g ⟨b,k,hb,_⟩
   grind [aQ]
  have stay:∀b,b<W.heap.size→W'.heap[b]? =W.heap[b]? :=fun b hb=>hX.kept b hb (noO b)
  have hW0:=hW
  obtain⟨p,q,hA,hV,hpq,hfz,hnd⟩:=hW
  rw[hvars] at hV
  have hgs:gs= []∧q= []:=by
   cases gs with
   |nil=>trivial
   |cons _ _=>trivial
  obtain⟨hgs,hq⟩:=hgs
  obtain⟨s1,s2,s3⟩:=hspec gs hgs
  refine⟨ds,gs,before,[],p,[],hW0,?_,?_,?_,?_,fun h=>by cases h⟩
  ·rw[s1,hrt]
   refine⟨[],[],⟨1,?_⟩,rfl,rfl⟩
   simp[DataW.trod,hbt,Value.cells]
  ·grind [od]
  ·rw[s3,hvars];rfl
  ·refine⟨hX.os,hX.output,fun i hi=>?_⟩<;>grind
end Go.Ax
namespace Go.Ax
end Go.Ax
namespace Go.Ax
theorem cH{c:Prop}[Decidable c]{α:Type}{x y:α}(h:c):(if decide c=true then x else y)=x:=if_pos (decide_eq_true h)
theorem gu{a b:Int}{α:Type}{x y:α}(h:¬a<b):(if decide (a<b)=true then x else y)=y:=if_neg fun e=>h (of_decide_eq_true e)
theorem ei(n:Nat){α:Type}{x y:α}:(if 0≤(n:Int) then x else y)=x:=if_pos (Int.natCast_nonneg n)
theorem ka(c:Nat)(h:c≤4611686018427387904):aZ ((c:Int)+(1:Int))=((c+1:Nat):Int):=bu h
end Go.Ax
