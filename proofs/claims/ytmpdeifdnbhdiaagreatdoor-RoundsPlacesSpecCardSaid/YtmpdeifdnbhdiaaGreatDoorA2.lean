/- The machines: what it means to be walked or run, part 2. No condition. -/
import Derived.Test.YtmpdeifdnbhdiaaGreatDoorA1
import Derived.Laws.MakeOwn
import Derived.Laws.IdiomStrings
import Derived.Laws.Slices
import Derived.Laws.StructEq
import Derived.ChangeKeysEq
import Derived.RangeFuncRecord
namespace Go.Abs
def B9(hb:Nat→Option aj)(bs:Nat)(u:Ty):AV→Option (List u.den)
 | .val (.slice bs' u') xs=>if h:Ty.same u' u=true then if Nat.beq bs' bs then some (Ty.af h▸xs) else none else none
 | .dS=>some []
 |
  .own b=>match hb b with
  |some (.row _ bs' u' xs)=>if h:Ty.same u' u=true then if Nat.beq bs' bs then some (Ty.af h▸xs) else none else none
  |_=>none
 |
  .mo b lo len=>match hb b with
  |some (.row _ bs' u' xs)=>if h:Ty.same u' u=true then if Nat.beq bs' bs then some (Ty.af h▸((xs.drop lo).take len)) else none else none
  |_=>none
 |
  .ka b p lo len=>match hb b with
  |
   some (.var _ v)=>match v.get p with
   |some (.val (.arr n u') xs)=>if h:Ty.same u' u=true then if Nat.ble (n*bs) az&&Nat.ble n az then some (Ty.af h▸((List.drop lo xs).take len)) else none else none
   |_=>none
  |_=>none
 |_=>none
def MI(E:Env)(w:World)(bs:Nat)(u:Ty)(v:Value)(xs:List u.den):Prop:=
 ∃a cap,v= .slice a xs.length cap∧xs.length≤cap∧xs.length*bs≤az∧xs.length≤az∧
  (xs= []∨∃g o cs,a=some ⟨g,o,none⟩∧lj w ⟨g,o,none⟩ cs∧aC (Rel w E.S u) cs xs)
theorem ue{gl:Ctx}{E:Env}{w:World}{hp:List (Option aj)}(hw:HW gl E w hp){hb:Nat→Option aj}(hB:HB hb hp){bs:Nat}{u:Ty}{x:AV}{v:Value}{xs:List u.den}(hx:RV E w x v)(h:B9 hb bs u x=some xs):MI E w bs u v xs:=by
 unfold B9 at h
 split at h
 ·rename_i bs' u' ys
  split at h
  ·rename_i hs
   split at h
   ·rename_i Sb
    have e:=Ty.af hs
    subst e
    have:=Nat.eq_of_beq_eq_true Sb;subst this
    cases h
    obtain⟨a,cap,e,h1,h2,h3,h4⟩:=RV.atom rfl hx
    simp at e;subst e
    refine⟨a,cap,rfl,h1,h2,h3,h4.imp id ?_⟩
    rintro⟨b,o,cs,e1,_,e3,e4⟩
    exact⟨b,o,cs,e1,e3,e4⟩
   ·cases h
  ·cases h
 ·cases h
  have hx:=RV.atom rfl hx
  simp[RC] at hx;subst hx
  exact⟨none,0,rfl,Nat.le_refl _,by simp,by simp,Or.inl rfl⟩
 ·rename_i b
  split at h
  ·rename_i e0 bs' u' ys hk
   split at h
   ·rename_i hs
    split at h
    ·rename_i Sb
     have e:=Ty.af hs
     subst e
     have:=Nat.eq_of_beq_eq_true Sb;subst this
     cases h
     have hx:=RV.atom rfl hx
     obtain⟨hr,_⟩:=hx
     simp at hr
     obtain⟨h1,h2,h3,h4,a,cap,h5,h6,h7⟩:=hw.bh b _ (hB b _ hk)
     rw[h5] at hr
     subst hr
     rcases h7 with⟨⟨h7,_⟩,h8,h9⟩|⟨g,c,h7,h8,h9,SW,Sy,h12⟩
     ·subst h9;exact⟨a,cap,rfl,by simp,h2,h3,Or.inl rfl⟩
     ·refine⟨a,cap,rfl,Sy,h2,h3,Or.inr ⟨g,0,_,h8,?_,h12⟩⟩
      have:=lj.of_heap h9 0 (List.length ys*u'.size)
      simpa using this
    ·cases h
   ·cases h
  ·cases h
 ·rename_i b lo len
  split at h
  ·rename_i e0 bs' u' ys hk
   split at h
   ·rename_i hs
    split at h
    ·rename_i Sb
     have e:=Ty.af hs
     subst e
     have:=Nat.eq_of_beq_eq_true Sb;subst this
     cases h
     obtain⟨a',c',n,tt,r1,r2,r3,r4,a2,r5,r6⟩:=RV.atom rfl hx
     simp at r5;subst r5
     obtain⟨h1,h2,h3,h4,a,cap,h5,h6,h7⟩:=hw.bh b _ (hB b _ hk)
     rw[h1] at r1;cases r1
     rw[h5] at r2;cases r2
     have hlen:((ys.drop lo).take len).length=len:=by simp;omega
     have hb1:len*bs'≤az:=Nat.le_trans (Nat.mul_le_mul_right _ (by omega)) h2
     refine⟨_,_,by rw[hlen],by rw[hlen];omega,by rw[hlen];exact hb1,by rw[hlen];omega,?_⟩
     rcases Nat.eq_zero_or_pos len with hz|hz
     ·subst hz;exact Or.inl (by simp)
     ·rcases h7 with⟨h7,h8,h9⟩|⟨g,c,h7,h8,h9,SW,Sy,h12⟩
      ·subst h9;simp at r3;omega
      ·subst h8
       have hr0:=lj.of_heap h9 0 (ys.length*u'.size)
       simp only[List.drop_zero] at hr0
       obtain⟨SE,q1,q2⟩:=aC.part hr0 h12 lo len
       refine Or.inr ⟨g,0+lo*u'.size,SE,?_,q1,q2⟩
       rcases r6 with r6|r6
       ·omega
       ·rw[r6]
        simp only[Option.map_some,Option.some.injEq]
        unfold Addr.add;split<;>simp_all
    ·cases h
   ·cases h
  ·cases h
 ·rename_i b p lo len
  split at h
  ·rename_i tt v' hk
   split at h
   ·rename_i n u' ys hv
    split at h
    ·rename_i hs
     split at h
     ·rename_i hc
      have e:=Ty.af hs
      subst e
      cases h
      simp only[Bool.and_eq_true] at hc
      have hc1:=Nat.le_of_ble_eq_true hc.1
      have hc2:=Nat.le_of_ble_eq_true hc.2
      obtain⟨n2,t2,r1,r2,r3,a,cap,e,r4,r5⟩:=RV.atom rfl hx
      simp at e;subst e
      have hkb:=hw.bh b _ (hB b _ hk)
      obtain⟨g,s,cs,q1,q2,q3,q4,q5⟩:=m8 hkb r2 (u:=.val (.arr n u') ys) hv
      rw[r1] at q2;cases q2
      have:=Ty.af (by simpa[AV.bB] using q3)
      cases this
      obtain⟨q5a,q5b⟩:=q5
      have hlen:((List.drop lo ys).take len).length=len:=by simp;omega
      have hb1:len*bs≤az:=Nat.le_trans (Nat.mul_le_mul_right _ (by omega)) hc1
      refine⟨a,cap,by rw[hlen],by rw[hlen];exact r4,by rw[hlen];exact hb1,by rw[hlen];omega,?_⟩
      rcases r5 with r5|⟨g',r5,r6⟩
      ·subst r5;exact Or.inl (by simp)
      ·rw[q1] at r5;cases r5
       obtain⟨SE,z1,z2⟩:=aC.part q4 q5b lo len
       exact Or.inr ⟨g,_,SE,r6,z1,z2⟩
     ·cases h
    ·cases h
   ·cases h
  ·cases h
 ·cases h
def i9(G:bH)(hb:Nat→Option aj)(d:Nat)(t t2:TypeId)(s x:AV):Option (bw):=
 match G.at t with
 |
  some td=>match td.ty with
  |
   .slice bs u=>if Nat.beq t t2 then(match B9 hb bs u x with
   |
    some ys=>match s with
    | .dS=>some ⟨.own d,[(d,some (.row td.e bs u ys))],[d],[ys.length*bs≤az]⟩
    |
     .own b=>match hb b with
     |some (.row e' bs' u' xs)=>if h:Ty.same u' u=true then if Nat.beq bs' bs&&Nat.beq e' td.e&& !Nat.beq b d then some ⟨.own d,[(b,none),(d,some (.row td.e bs u ((Ty.af h▸xs:List u.den)++ys)))],[d],[(xs.length+ys.length)*bs≤az]⟩ else none else none
     |_=>none
    |_=>none
   |none=>none) else none
  |_=>none
 |none=>none
theorem oY{P:Program}{w:World}{t ty e:TypeId}{i:TypeInfo}(ht:P.underlying t=some (.slice e))(hi:P.info? e=some i)(a a2:Option Addr)(n cap c:Nat)(hn:n≤cap):
 (Builtin.append_ #[t,t] ty #[.slice a n cap,.slice a2 0 c]).run P w= .ok (.slice a n cap) w:=by
 have hf:(Builtin.firstCells i.size 0 (.slice a2 0 c)).run P w= .ok #[] w:=by
  cases a2<;>simp[Builtin.firstCells,loadCells,loadCellsFrom]
 cases a with
 |none=>simp[Builtin.append_,run_underlying ht,sizeOf,typeInfo,hi,Builtin.lenOf,hn,hf]
 |some a=>simp[Builtin.append_,run_underlying ht,sizeOf,typeInfo,hi,Builtin.lenOf,hn,hf,storeCells]
theorem aC.sL{w:World}{S:Nat→Prop}{u:Ty}{cs:List Value}{xs:List u.den}(h:aC (Rel w S u) cs xs):∀v∈cs,v.oneCell'=true:=
 Rel.one (t:=.arr xs.length u) (x:=xs) (w:=w) (S:=S) ⟨rfl,h⟩
def ll(E:Env)(w0 w:World)(e:TypeId)(u:Ty)(v:Value)(g:Option Nat)(xs:List u.den):Prop:=
 (v= .slice none 0 0∧xs= []∧g=none)∨
 ∃i cap cur,g=some i∧v= .slice (some ⟨i,0,none⟩) xs.length cap∧w.heap[i]? =some (.cells cur e (0,0))∧xs.length≤cap∧cap≤maxLen∧cur.size=cap*u.size∧aC (Rel w0 E.S u) (cur.toList.take (xs.length*u.size)) xs
theorem qf{P:Program}{gl:Ctx}{G:bH}(T:aW P G){w:World}{E:Env}{t ty:TypeId}{td:TD}(ht:G.at t=some td){bs:Nat}{u:Ty}(Su:td.ty= .slice bs u)
 {v x:Value} {g:Option Nat} {xs ys:List u.den} (hv:ll E w w td.e u v g xs) (hx:MI E w bs u x ys) (hb:(xs.length+ys.length)*bs≤az):
 ∃v' w' g',(Builtin.append_ #[t,t] ty #[v,x]).run P w= .ok v' w'∧ll E w w' td.e u v' g' (xs++ys)∧w'.os=w.os∧Tp gl.md w w'∧w'.output=w.output∧w.heap.size≤w'.heap.size∧
  (∀k,k<w.heap.size→g≠some k→w'.heap[k]? =w.heap[k]?)∧(∀k,g'=some k→g=some k∨w.heap.size≤k):=by
 obtain⟨te,ie,h1,h2,h3,h4,h5,h6,h7⟩:=T.bX ht Su
 obtain⟨a,c,rfl,hc1,hc2,hc3,hx⟩:=hx
 have hmn:xs.length+ys.length≤az:=Nat.le_trans (Nat.le_mul_of_pos_right _ h7) hb
 obtain⟨i',d',h1i,_,Sd,_,z,hz,hz1,_⟩:=T.info h2
 rw[h4] at h1i;cases h1i
 rw[h3] at Sd hz1
 have hzl:z.cells.size=u.size:=by
  have:=RC.len (fB (E:=E) (w:=w) hz1).1
  have h0:=AV.fe (Ty.ou u)
  rw[Array.length_toList] at this;omega
 rcases Nat.eq_zero_or_pos ys.length with hm|hm
 ·have hy:ys= []:=List.eq_nil_of_length_eq_zero hm
  subst hy
  have hn:∃ad n cap,v= .slice ad n cap∧n≤cap:=by
   rcases hv with⟨e,_,_⟩|⟨i,cap,cur,_,e,_,h,_⟩
   ·exact⟨none,0,0,e,Nat.le_refl _⟩
   ·exact⟨_,_,cap,e,h⟩
  obtain⟨ad,n,cap,e,hn⟩:=hn
  refine⟨v,w,g,?_,by rw[List.append_nil];exact hv,rfl,Tp.r rfl rfl,rfl,Nat.le_refl _,fun _ _ _=>rfl,fun k hk=>Or.inl hk⟩
  rw[e]
  exact oY h1 h4 ad a n cap c hn
 ·rcases hx with hx|⟨ga,oa,cs,rfl,hr,SO⟩
  ·subst hx;simp at hm
  ·have hl:cs.length=ys.length*ie.size:=by rw[Sd];exact aC.len (fun _ _ h=>Rel.len h) SO
   have mx:az≤maxLen:=by unfold az maxLen;omega
   have hbb:(xs.length+ys.length)*ie.bytes≤140737488355328:=by rw[h5];exact hb
   have grown:∀(old:Nat)(os:List Value),aC (Rel w E.S u) os xs→
    ll E w (w.drew.alloc (.cells (os.toArray++cs.toArray++Builtin.zeroCells z.cells (grownCap w (xs.length+ys.length) old td.e -(xs.length+ys.length))) td.e)) td.e u
     (.slice (some ⟨w.heap.size,0,none⟩) (xs.length+ys.length) (grownCap w (xs.length+ys.length) old td.e)) (some w.heap.size) (xs++ys):=by
    intro old os hos
    have hge:=grownCap_ge w (xs.length+ys.length) old td.e
    have hol:os.length=xs.length*u.size:=aC.len (fun _ _ h=>Rel.len h) hos
    refine Or.inr ⟨w.heap.size,_,_,rfl,by rw[List.length_append],heap_alloc_new w.drew _,by rw[List.length_append];exact hge,grownCap_le_maxLen w _ _ _ (by omega),?_,?_⟩
    ·simp only[Array.size_append,List.size_toArray,size_zeroCells,hzl,hol,hl,Sd,←Nat.add_mul]
     congr 1;omega
    ·have hall:=aC.append hos SO
     simp only[Array.toList_append,List.length_append]
     rw[List.take_append_of_le_length (by simp[hol,hl,Sd,Nat.add_mul])]
     rw[List.take_of_length_le (by simp[hol,hl,Sd,Nat.add_mul])]
     simpa using hall
   rcases hv with⟨rfl,rfl,rfl⟩|⟨i,cap,cur,rfl,rfl,hg,hnc,hcm,hcs,hrelx⟩
   ·have hbb0:ys.length*ie.bytes≤140737488355328:=by simpa using hbb
    have hr':=run_append_nil (P:=P) w t ty td.e ie z h1 h4 hz ⟨ga,oa,none⟩ ys.length c cs hl hr hm (by unfold az at hmn;omega) (by omega)
    have hgr:=grown 0 [] rfl
    simp only[List.length_nil,Nat.zero_add,List.nil_append] at hgr ⊢
    refine⟨_,_,some w.heap.size,hr',?_,rfl,Tp.s rfl rfl,rfl,by simp,fun k hk _=>heap_alloc_old w.drew _ k hk,fun k hk=>by cases hk;exact Or.inr (Nat.le_refl _)⟩
    simpa using hgr
   ·by_cases SC:xs.length+ys.length≤cap
    ·have hfit:xs.length*ie.size+cs.length≤cur.size:=by rw[hl,hcs,Sd,←Nat.add_mul];exact Nat.mul_le_mul_right _ SC
     have hr':=run_append_room (P:=P) w t ty td.e ie h1 h4 i xs.length cap cur hg ⟨ga,oa,none⟩ ys.length c cs hl hr (aC.sL SO) SC hfit
     refine⟨_,_,some i,hr',Or.inr ⟨i,cap,_,rfl,by rw[List.length_append],setRow_heap w i cur _ td.e _ hg,by rw[List.length_append];exact SC,hcm,?_,?_⟩,rfl,Tp.r rfl rfl,rfl,by simp,fun k _ hk=>setRow_other w i k _ (fun e=>hk (by rw[e])),fun k hk=>Or.inl hk⟩
     ·simp only[List.size_toArray,List.length_append,List.length_take,List.length_drop,Array.length_toList]
      omega
     ·rw[Sd] at hfit ⊢
      have hol:(cur.toList.take (xs.length*u.size)).length=xs.length*u.size:=by simp;omega
      rw[List.length_append]
      rw[List.take_append_of_le_length (by simp[hl,Sd,Nat.add_mul];omega)]
      rw[List.take_of_length_le (by simp[hl,Sd,Nat.add_mul];omega)]
      exact aC.append hrelx SO
    ·have holds:∀j v,(cur.toList.take (xs.length*u.size))[j]? =some v→w.cell? ((⟨i,0,none⟩:Addr).add j)=some v:=by
      have:=lj.of_heap hg 0 (xs.length*u.size)
      rw[List.drop_zero] at this;exact this
     have hol:(cur.toList.take (xs.length*u.size)).length=xs.length*ie.size:=by
      rw[Sd];exact aC.len (fun _ _ h=>Rel.len h) hrelx
     have hr':=run_append_grow (P:=P) w t ty td.e ie z h1 h4 hz ⟨i,0,none⟩ xs.length cap _ hol holds ⟨ga,oa,none⟩ ys.length c cs hl hr (by omega) (by unfold az at hmn;omega) (growslice_fits (by omega) hbb)
     exact⟨_,_,some w.heap.size,hr',grown cap _ hrelx,rfl,Tp.s rfl rfl,rfl,by simp,fun k hk _=>heap_alloc_old w.drew _ k hk,fun k hk=>by cases hk;exact Or.inr (Nat.le_refl _)⟩
theorem HW.swap{gl:Ctx}{E:Env}{w w':World}{hp:List (Option aj)}(h:HW gl E w hp){b d:Nat}{k k':aj}{g:Option Nat}{sv:Value}{t:Ty}(hb:hp[b]? =some (some k))(hbd:b≠d)
 (Sd:w.heap.size≤w'.heap.size) (hold:∀i,i<w.heap.size→E.g b≠some i→w'.heap[i]? =w.heap[i]?) (hids:∀(c:Nat)(k':aj),hp[c]? =some (some k')→d∉k'.ids)
 (hg:∀i,g=some i→E.g b=some i∨w.heap.size≤i) (hk:RB (E.at d g sv t) w' d k'):HW gl (E.at d g sv t) w' ((hp.set b none).set d (some k')):=by
 have kp:bm E w (E.at d g sv t) w':=⟨fun i hi=>hold i (h.slt i hi) (fun e=>h.fo b k i hb e hi),fun b hb=>hb⟩
 have old:∀(c:Nat)(k2:aj),c≠d→((hp.set b none).set d (some k'))[c]? =some (some k2)→hp[c]? =some (some k2)∧c≠b:=by
  intro c k2 R7 hc
  rw[List.getElem?_set,if_neg (fun e=>R7 e.symm),List.getElem?_set] at hc
  split at hc
  ·split at hc<;>cases hc
  ·rename_i e;exact⟨hc,fun e'=>e e'.symm⟩
 have hEd:(E.at d g sv t).g d=g:=by simp[Env.at]
 have hEg:∀c,c≠d→(E.at d g sv t).g c=E.g c:=by intro c hc;simp[Env.at,hc]
 have hno:∀(c:Nat)(k2:aj)(i:Nat),hp[c]? =some (some k2)→c≠b→E.g c=some i→g≠some i:=by
  intro c k2 i hc hcb SY e
  rcases hg i e with h1|h1
  ·exact hcb (h.sep c b k2 k i hc hb SY h1)
  ·have:=Own.below h ⟨c,k2,hc,SY⟩;omega
 refine⟨?_,?_,?_,fun i hi=>Nat.lt_of_lt_of_le (h.slt i hi) Sd,h.ik kp⟩
 ·intro c k2 hc
  by_cases e:c=d
  ·subst e
   rw[List.getElem?_set] at hc
   simp only[if_true] at hc
   split at hc
   ·cases hc;exact hk
   ·cases hc
  ·obtain⟨hc',hcb⟩:=old c k2 e hc
   refine RB.mono kp (Env.xk ?_) ?_ (h.bh c k2 hc')
   ·intro hm
    cases hm with
    |head=>exact e rfl
    |tail _ hm=>exact hids c k2 hc' hm
   ·intro i hi
    exact hold i (Own.below h ⟨c,k2,hc',hi⟩) (fun e'=>hcb (h.sep c b k2 k i hc' hb hi e'))
 ·intro c c' k1 k2 i hc hc' g1 g2
  by_cases e:c=d<;>by_cases e':c'=d
  ·rw[e,e']
  ·subst e
   obtain⟨q1,q2⟩:=old c' k2 e' hc'
   rw[hEd] at g1;rw[hEg c' e'] at g2
   exact absurd g1 (hno c' k2 i q1 q2 g2)
  ·subst e'
   obtain⟨q1,q2⟩:=old c k1 e hc
   rw[hEd] at g2;rw[hEg c e] at g1
   exact absurd g2 (hno c k1 i q1 q2 g1)
  ·rw[hEg c e] at g1;rw[hEg c' e'] at g2
   exact h.sep c c' k1 k2 i (old c k1 e hc).1 (old c' k2 e' hc').1 g1 g2
 ·intro c k1 i hc g1 hs
  by_cases e:c=d
  ·subst e
   rw[hEd] at g1
   rcases hg i g1 with h1|h1
   ·exact h.fo b k i hb h1 hs
   ·have:=h.slt i hs;omega
  ·rw[hEg c e] at g1
   exact h.fo c k1 i (old c k1 e hc).1 g1 hs
theorem cK.swap{gl:Ctx}{σ:St}{E:Env}{a:Act}{w w':World}(h:cK gl σ E a w){b d:Nat}{k k':aj}{g:Option Nat}{sv:Value}{t:Ty}(hf:σ.fresh d)(hb:σ.hp[b]? =some (some k))(hbd:b≠d)
 (hos:w'.os=w.os) (hta:Tp gl.md w w') (hou:w'.output=w.output) (Sd:w.heap.size≤w'.heap.size) (hold:∀i,i<w.heap.size→E.g b≠some i→w'.heap[i]? =w.heap[i]?)
 (hg:∀i,g=some i→E.g b=some i∨w.heap.size≤i) (hk:RB (E.at d g sv t) w' d k'):
 cK gl {σ with hp:=aA σ.hp [(b,none),(d,some k')]} (E.at d g sv t) a w'∧Ext gl.md (Own σ.hp E) E w (Own (aA σ.hp [(b,none),(d,some k')]) (E.at d g sv t)) (E.at d g sv t) w':=by
 have kp:bm E w (E.at d g sv t) w':=⟨fun i hi=>hold i (h.hw.slt i hi) (fun e=>h.hw.fo b k i hb e hi),fun b hb=>hb⟩
 have hw:=h.hw.swap (w':=w') (sv:=sv) (t:=t) hb hbd Sd hold (fun c k' hk hm=>hf.1 (St.va hk d hm)) hg hk
 refine⟨h.carry kp (Env.xk hf.1) hw,hos,hta,hou,Sd,?_,fun i hi=>hi,fun i hi=>Or.inl hi,?_,Env.DC hf.2.2⟩
 ·intro i hi hn
  exact hold i hi (fun e=>hn ⟨b,k,hb,e⟩)
 ·rintro i ⟨c,k2,hc,SY⟩
  simp only[aA] at hc
  by_cases e:c=d
  ·subst e
   simp only[Env.at,if_true] at SY
   exact(hg i SY).imp (fun h1=>⟨b,k,hb,h1⟩) id
  ·simp only[Env.at,e,if_false] at SY
   rw[List.getElem?_set,if_neg (fun e'=>e e'.symm),List.getElem?_set] at hc
   split at hc
   ·split at hc<;>cases hc
   ·exact Or.inl ⟨c,k2,hc,SY⟩
theorem ll.RB{E:Env}{w w':World}{e:TypeId}{bs:Nat}{u:Ty}{v:Value}{g:Option Nat}{xs:List u.den}{d:Nat}(h:ll E w w' e u v g xs)(hu:0<u.size)(hb:xs.length*bs≤az)(hm:xs.length≤az)(kp:bm E w (E.at d g v (.arr xs.length u)) w'):
 RB (E.at d g v (.arr xs.length u)) w' d (.row e bs u xs)∧RV (E.at d g v (.arr xs.length u)) w' (.own d) v:=by
 rcases h with⟨rfl,rfl,rfl⟩|⟨i,cap,cur,rfl,rfl,h1,h2,h3,h4,h5⟩
 ·refine⟨⟨by simp[Env.at],by simp,by simp,hu,none,0,by simp[Env.at],by simp[maxLen],Or.inl ⟨⟨rfl,rfl⟩,by simp[Env.at],rfl⟩⟩,RV.fD (Or.inr ⟨rfl,by simp[Env.at],none,0,0,by simp[Env.at]⟩)⟩
 ·refine⟨⟨by simp[Env.at],hb,hm,hu,some ⟨i,0,none⟩,cap,by simp[Env.at],h3,Or.inr ⟨i,cur,by simp[Env.at],rfl,h1,h4,h2,aC.mono (fun _ _=>Rel.mono kp.w kp.S) h5⟩⟩,RV.fD (Or.inr ⟨rfl,by simp[Env.at],some ⟨i,0,none⟩,xs.length,cap,by simp[Env.at]⟩)⟩
theorem kn{P:Program}{G:bH}(T:aW P G){gl:Ctx}{σ:St}{E:Env}{a:Act}{w:World}(h:cK gl σ E a w){hb:Nat→Option aj}(hB:HB hb σ.hp){d:Nat}{t t2 ty:TypeId}{s x:AV}{vs vx:Value}(hs:RV E w s vs)(hx:RV E w x vx){r:bw}
 (he:i9 G hb d t t2 s x=some r) (Sm:dT r.vc) (SK:∀b∈r.fr,σ.fresh b):
 ∃v w' E',(Builtin.append_ #[t,t2] ty #[vs,vx]).run P w= .ok v w'∧cK gl {σ with hp:=aA σ.hp r.hw} E' a w'∧RV E' w' r.v v∧Ext gl.md (Own σ.hp E) E w (Own (aA σ.hp r.hw) E') E' w':=by
 unfold i9 at he
 split at he
 ·rename_i td ht
  split at he
  ·rename_i bs u Su
   split at he
   ·rename_i ht2
    have:=Nat.eq_of_beq_eq_true ht2;subst this
    obtain⟨te,ie,h1,h2,h3,h4,h5,h6,h7⟩:=T.bX ht Su
    split at he
    ·rename_i ys hys
     have hsl:=ue h.hw hB hx hys
     split at he
     ·cases he
      have hbd:ys.length*bs≤az:=Sm.1
      have hs:=RV.atom rfl hs
      simp[RC] at hs;subst hs
      obtain⟨v',w',g',r1,r2,r3,r4,r5,r6,r7,r8⟩:=qf (P:=P) T (ty:=ty) ht Su (xs:=[]) (g:=none) (Or.inl ⟨rfl,rfl,rfl⟩) hsl (by simpa using hbd)
      simp only[List.nil_append] at r2
      have kp:bm E w (E.at d g' v' (.arr ys.length u)) w':=⟨fun i hi=>r7 i (h.hw.slt i hi) (by simp),fun _ h=>h⟩
      obtain⟨q1,q2⟩:=ll.RB (bs:=bs) (d:=d) r2 h6 hbd (Nat.le_trans (Nat.le_mul_of_pos_right _ h7) hbd) kp
      obtain⟨z1,z2⟩:=h.fresh (SK d (by simp)) (w':=w') (g:=g') (sv:=v') (t:=.arr ys.length u) (k:=.row td.e bs u ys) r3 r4 r5 r6 (fun i hi=>r7 i hi (by simp)) (fun i hi=>(r8 i hi).resolve_left (by simp)) q1
      exact⟨v',w',_,r1,z1,q2,z2⟩
     ·rename_i b
      split at he
      ·rename_i e' bs' u' xs hk
       split at he
       ·rename_i SB
        split at he
        ·rename_i hc
         simp only[Bool.and_eq_true,Bool.not_eq_true'] at hc
         have e:=Ty.af SB
         subst e
         have:=Nat.eq_of_beq_eq_true hc.1.1;subst this
         have:=Nat.eq_of_beq_eq_true hc.1.2;subst this
         have R7:b≠d:=fun e=>by subst e;simp at hc
         cases he
         have hbd:(xs.length+ys.length)*bs'≤az:=Sm.1
         have hs:=RV.atom rfl hs
         obtain⟨hs,_⟩:=hs
         simp at hs;subst hs
         have hkb:=hB b _ hk
         obtain⟨b1,b2,b3,b4,ad,cap,b5,b6,b7⟩:=h.hw.bh b _ hkb
         have hrow:ll E w w td.e u' (E.sv b) (E.g b) xs:=by
          rw[b5]
          rcases b7 with⟨⟨b7,b7'⟩,b8,b9⟩|⟨i,cur,b7,b8,b9,b10,b11,b12⟩
          ·subst b9;subst b7;subst b7';exact Or.inl ⟨rfl,rfl,b8⟩
          ·subst b8;exact Or.inr ⟨i,cap,cur,b7,rfl,b9,b11,b6,b10,b12⟩
         obtain⟨v',w',g',r1,r2,r3,r4,r5,r6,r7,r8⟩:=qf (P:=P) T (ty:=ty) ht Su hrow hsl hbd
         have kp:bm E w (E.at d g' v' (.arr (xs++ys).length u')) w':=⟨fun i hi=>r7 i (h.hw.slt i hi) (fun e=>h.hw.fo b _ i hkb e hi),fun _ h=>h⟩
         have hlen:(xs++ys).length=xs.length+ys.length:=List.length_append
         obtain⟨q1,q2⟩:=ll.RB (bs:=bs') (d:=d) r2 h6 (by rw[hlen];exact hbd) (by rw[hlen];exact Nat.le_trans (Nat.le_mul_of_pos_right _ h7) hbd) kp
         obtain⟨z1,z2⟩:=h.swap (SK d (by simp)) hkb R7 r3 r4 r5 r6 r7 r8 q1
         exact⟨v',w',_,r1,z1,q2,z2⟩
        ·cases he
       ·cases he
      ·cases he
     ·cases he
    ·cases he
   ·cases he
  ·cases he
 ·cases he
end Go.Abs
namespace Go.Abs
def v8:Option AV→Option (Option Int)
 |none=>some none
 |some (.val (.int _) i)=>some (some i)
 |some _=>none
def RO(E:Env)(w:World):Option AV→Option Value→Prop
 |none,none=>True
 |some x,some v=>RV E w x v
 |_,_=>False
def bd(lo hi mx:Option Int)(n:Nat):Nat×Nat×List Prop:=
 match lo,hi,mx with
 |none,none,none=>(0,n,[])
 |some l,none,none=>(l.toNat,n,[0≤l,l≤n])
 |none,some h,none=>(0,h.toNat,[0≤h,h≤n])
 |some l,some h,none=>(l.toNat,h.toNat,[0≤l,l≤h,h≤n])
 |none,some h,some m=>(0,h.toNat,[0≤h,h≤m,m≤n])
 |some l,some h,some m=>(l.toNat,h.toNat,[0≤l,l≤h,h≤m,m≤n])
 |_,none,some _=>(0,0,[False])
theorem oZ{P:Program}{E:Env}{w:World}{lo hi mx:Option AV}{vl vh vm:Option Value}{l h m:Option Int}(hl:RO E w lo vl)(hh:RO E w hi vh)(hm:RO E w mx vm)(el:v8 lo=some l)(eh:v8 hi=some h)(em:v8 mx=some m)
 (isS:Bool) (n cap:Nat) (hn:n≤cap) (Sm:dT (bd l h m n).2.2):
 ∃mm,(Instr.sliceBounds isS n cap vl vh vm).run P w= .ok ((bd l h m n).1,(bd l h m n).2.1,mm) w∧(bd l h m n).1≤(bd l h m n).2.1∧(bd l h m n).2.1≤n∧(bd l h m n).2.1≤mm∧mm≤cap∧(m=none→mm=cap):=by
 have key:∀{x:Option AV}{v:Option Value}{i:Option Int},RO E w x v→v8 x=some i→(i=none∧v=none)∨∃k j,i=some j∧v=some (.int k j):=by
  intro x v i hr hb
  cases x with
  |
   none=>cases v with
   |none=>cases hb;exact Or.inl ⟨rfl,rfl⟩
   |some v=>exact hr.elim
  |
   some x=>cases v with
   |none=>exact hr.elim
   |
    some v=>
    cases x with
    |
     val t y=>
     cases t<;>simp[v8] at hb
     rename_i k
     obtain⟨rfl,_⟩:=RV.bM hr
     exact Or.inr ⟨k,y,hb.symm,rfl⟩
    |_=>simp[v8] at hb
 rcases key hl el with⟨rfl,rfl⟩|⟨kl,jl,rfl,rfl⟩<;>rcases key hh eh with⟨rfl,rfl⟩|⟨kh,jh,rfl,rfl⟩<;>rcases key hm em with⟨rfl,rfl⟩|⟨km,jm,rfl,rfl⟩
 ·exact⟨cap,by simp[Instr.sliceBounds,bd],by simp[bd],by simp[bd],by simpa[bd] using hn,Nat.le_refl _,fun _=>rfl⟩
 ·exact Sm.1.elim
 ·obtain⟨h1,h2,_⟩:=Sm
  refine⟨cap,?_,by simp[bd],by simp[bd];omega,by simp[bd];omega,Nat.le_refl _,fun _=>rfl⟩
  have b1:(jh:Int)≤cap:=by omega
  simp[Instr.sliceBounds,bd,run_sliceBound (P:=P) w kh jh cap _ h1 b1]
 ·obtain⟨h1,h2,h3,_⟩:=Sm
  refine⟨jm.toNat,?_,by simp[bd],by simp[bd];omega,by simp[bd];omega,by omega,fun h=>by cases h⟩
  have b1:(jm:Int)≤cap:=by omega
  have b2:(jh:Int)≤(jm.toNat:Nat):=by omega
  simp[Instr.sliceBounds,bd,run_sliceBound (P:=P) w km jm cap _ (by omega) b1,run_sliceBound (P:=P) w kh jh jm.toNat _ h1 b2]
 ·obtain⟨h1,h2,_⟩:=Sm
  refine⟨cap,?_,by simp[bd];omega,by simp[bd],by simp[bd];omega,Nat.le_refl _,fun _=>rfl⟩
  simp[Instr.sliceBounds,bd,run_sliceBound (P:=P) w kl jl n _ h1 h2]
 ·exact Sm.1.elim
 ·obtain⟨h1,h2,h3,_⟩:=Sm
  refine⟨cap,?_,by simp[bd];omega,by simp[bd];omega,by simp[bd];omega,Nat.le_refl _,fun _=>rfl⟩
  have b1:(jh:Int)≤cap:=by omega
  have b2:(jl:Int)≤(jh.toNat:Nat):=by omega
  simp[Instr.sliceBounds,bd,run_sliceBound (P:=P) w kh jh cap _ (by omega) b1,run_sliceBound (P:=P) w kl jl jh.toNat _ h1 b2]
 ·obtain⟨h1,h2,h3,h4,_⟩:=Sm
  refine⟨jm.toNat,?_,by simp[bd];omega,by simp[bd];omega,by simp[bd];omega,by omega,fun h=>by cases h⟩
  have b1:(jm:Int)≤cap:=by omega
  have b2:(jh:Int)≤(jm.toNat:Nat):=by omega
  have b3:(jl:Int)≤(jh.toNat:Nat):=by omega
  simp[Instr.sliceBounds,bd,run_sliceBound (P:=P) w km jm cap _ (by omega) b1,run_sliceBound (P:=P) w kh jh jm.toNat _ (by omega) b2,run_sliceBound (P:=P) w kl jl jh.toNat _ h1 b3]
def aS{α:Type}(xs:List α)(l h:Nat):List α:=(xs.drop l).take (h -l)
def wa(G:bH)(hb:Nat→Option aj)(t:TypeId)(x:AV)(l h m:Option Int):Option (AV×List Prop):=
 match G.at t with
 |
  some td=>
  match td.ty,x with
  | .slice bs u,.val (.slice bs' u') xs=>if Nat.beq bs bs'&&Ty.same u u' then some (.val (.slice bs' u') (aS xs (bd l h m xs.length).1 (bd l h m xs.length).2.1),(bd l h m xs.length).2.2) else none
  | .slice _ _,.dS=>some (.dS,(bd l h m 0).2.2)
  |
   .slice _ u,.own b=>match hb b,m with
   |some (.row _ _ u' xs),none=>if Ty.same u u' then some (.mo b (bd l h none xs.length).1 ((bd l h none xs.length).2.1 -(bd l h none xs.length).1),(bd l h none xs.length).2.2) else none
   |_,_=>none
  |
   .slice _ u,.mo b lo len=>match hb b,m with
   |some (.row _ _ u' _),none=>if Ty.same u u' then some (.mo b (lo+(bd l h none len).1) ((bd l h none len).2.1 -(bd l h none len).1),(bd l h none len).2.2) else none
   |_,_=>none
  |
   .slice _ u,.ka b p lo len=>match hb b with
   |
    some (.var tt _)=>match tt.sub p with
    |some (.arr _ u')=>if Ty.same u u' then some (.ka b p (lo+(bd l h m len).1) ((bd l h m len).2.1 -(bd l h m len).1),(bd l h m len).2.2) else none
    |_=>none
   |_=>none
  |
   .arr n u,.ptr b p=>match hb b with
   |
    some k=>match(im k).sub p with
    |some (.arr n' u')=>if Ty.same u u'&&Nat.beq n n' then some (.ka b p (bd l h m n).1 ((bd l h m n).2.1 -(bd l h m n).1),(bd l h m n).2.2) else none
    |_=>none
   |_=>none
  | .arr n u,.ec (.arr n' u') xs=>if Ty.same u u'&&Nat.beq n n'&&Nat.ble (n*td.e2) az&&Nat.ble n az then some (.val (.slice td.e2 u') (aS xs (bd l h m n).1 (bd l h m n).2.1),(bd l h m n).2.2) else none
  |
   .str,.val .str s=>match m with
   |none=>some (.val .str (aS s (bd l h none s.length).1 (bd l h none s.length).2.1),(bd l h none s.length).2.2)
   |some _=>none
  |_,_=>none
 |none=>none
def kM(G:bH)(hb:Nat→Option aj)(t:TypeId)(x:AV)(lo hi mx:Option AV):Option (AV×List Prop):=
 match v8 lo,v8 hi,v8 mx with
 |some l,some h,some m=>wa G hb t x l h m
 |_,_,_=>none
theorem Addr.ja(g o k:Nat):((⟨g,o,none⟩:Addr).add k)=⟨g,o+k,none⟩:=by
 unfold Addr.add;split<;>simp_all
theorem fq{P:Program}{w:World}{t e:TypeId}{sz n cap L H mm:Nat}{a:Option Addr}{vl vh vm:Option Value}(h1:P.underlying t=some (.slice e))(Sd:(sizeOf e).run P w= .ok sz w)(hb:(Instr.sliceBounds true n cap vl vh vm).run P w= .ok (L,H,mm) w):
 (Instr.sliceAt t (.slice a n cap) vl vh vm).run P w= .ok (.slice (if mm=L then a else a.map (·.add (L*sz))) (H -L) (mm -L)) w:=by
 simp[Instr.sliceAt,Instr.slice,underlying,h1,hb,Sd]
theorem mB{P:Program}{w:World}{t e:TypeId}{sz n L H mm:Nat}{a:Addr}{vl vh vm:Option Value}(h1:P.underlying t=some (.array n e))(Sd:(sizeOf e).run P w= .ok sz w)(hb:(Instr.sliceBounds false n n vl vh vm).run P w= .ok (L,H,mm) w):
 (Instr.sliceAt t (.pointer (some a)) vl vh vm).run P w= .ok (.slice (some (if mm=L then a else a.add (L*sz))) (H -L) (mm -L)) w:=by
 simp[Instr.sliceAt,Instr.sureAddr,underlying,h1,hb,Sd]
theorem lR{P:Program}{G:bH}(T:aW P G){gl:Ctx}{E:Env}{w:World}{hp:List (Option aj)}(hw:HW gl E w hp){hb:Nat→Option aj}(hB:HB hb hp){t:TypeId}{x u:AV}{vx:Value}{lo hi mx:Option AV}{vl vh vm:Option Value}{vc:List Prop}
 (hx:RV E w x vx) (hl:RO E w lo vl) (hh:RO E w hi vh) (hm:RO E w mx vm) (he:kM G hb t x lo hi mx=some (u,vc)) (Sm:dT vc):
 ∃v,(Instr.sliceAt t vx vl vh vm).run P w= .ok v w∧RV E w u v:=by
 unfold kM at he
 split at he
 ·rename_i l h m el eh em
  have B:=fun isS n cap hn hv=>oZ (P:=P) hl hh hm el eh em isS n cap hn hv
  unfold wa at he
  split at he
  ·rename_i td ht
   split at he
   ·rename_i bs u bs' u' xs Su
    split at he
    ·rename_i hc
     cases he
     simp only[Bool.and_eq_true] at hc
     have:=Nat.eq_of_beq_eq_true hc.1;subst this
     have:=Ty.af hc.2;subst this
     obtain⟨te,ie,h1,h2,h3,h4,h5,h6,h7⟩:=T.bX ht Su
     have Sd:=T.size h2 w
     rw[h3] at Sd
     obtain⟨a,cap,e,q1,q2,q3,q4⟩:=RV.atom rfl hx
     simp at e;subst e
     obtain⟨mm,b1,b2,b3,b4,b5,b6⟩:=B true xs.length cap q1 Sm
     generalize (bd l h m xs.length).1=L at*
     generalize (bd l h m xs.length).2.1=H at*
     refine⟨_,fq h1 Sd b1,?_⟩
     have hlen:(aS xs L H).length=H -L:=by simp[aS];omega
     refine RV.fD (Or.inr ⟨rfl,_,_,by rw[hlen],by rw[hlen];omega,by rw[hlen];exact Nat.le_trans (Nat.mul_le_mul_right _ (by omega)) q2,by rw[hlen];omega,?_⟩)
     rcases Nat.eq_zero_or_pos (H -L) with hz|hz
     ·exact Or.inl (List.eq_nil_of_length_eq_zero (by rw[hlen];exact hz))
     ·rcases q4 with q4|⟨b,o,cs,e1,e2,e3,e4⟩
      ·subst q4;simp at b3;omega
      ·subst e1
       obtain⟨SE,z1,z2⟩:=aC.part e3 e4 L (H -L)
       refine Or.inr ⟨b,o+L*u.size,SE,?_,e2,z1,z2⟩
       rw[if_neg (by omega)]
       simp[Addr.ja]
    ·cases he
   ·rename_i Su
    cases he
    obtain⟨te,ie,h1,h2,h3,h4,h5,h6,h7⟩:=T.bX ht Su
    have Sd:=T.size h2 w
    have hx:=RV.atom rfl hx
    simp[RC] at hx;subst hx
    obtain⟨mm,b1,b2,b3,b4,b5,b6⟩:=B true 0 0 (Nat.le_refl _) Sm
    generalize (bd l h m 0).1=L at*
    generalize (bd l h m 0).2.1=H at*
    have:L=0:=by omega
    have:H=0:=by omega
    have:mm=0:=by omega
    subst_vars
    exact⟨.slice none 0 0,by rw[fq h1 Sd b1];simp,RV.fD (Or.inr ⟨rfl,rfl⟩)⟩
   ·rename_i bs u b Su
    split at he
    ·rename_i e0 bs0 u' xs hk
     split at he
     ·rename_i hc
      cases he
      have:=Ty.af hc;subst this
      obtain⟨te,ie,h1,h2,h3,h4,h5,h6,h7⟩:=T.bX ht Su
      have Sd:=T.size h2 w
      rw[h3] at Sd
      have hx:=RV.atom rfl hx
      obtain⟨hx,_⟩:=hx
      simp at hx;subst hx
      obtain⟨q1,q2,q3,q4,a,cap,q5,q6,q7⟩:=hw.bh b _ (hB b _ hk)
      have hnc:xs.length≤cap:=by
       rcases q7 with⟨_,_,q9⟩|⟨_,_,_,_,_,_,FR,_⟩
       ·subst q9;simp
       ·exact FR
      obtain⟨mm,b1,b2,b3,b4,b5,b6⟩:=B true xs.length cap hnc Sm
      have:=b6 rfl;subst this
      generalize (bd l h none xs.length).1=L at*
      generalize (bd l h none xs.length).2.1=H at*
      rw[q5]
      refine⟨_,fq h1 Sd b1,RV.fD (Or.inr ⟨rfl,a,mm,xs.length,u,q1,q5,by omega,hnc,_,rfl,?_⟩)⟩
      rcases Nat.eq_zero_or_pos (H -L) with hz|hz
      ·exact Or.inl hz
      ·exact Or.inr (by rw[if_neg (by omega)])
     ·cases he
    ·cases he
   ·rename_i bs u b lo' len Su
    split at he
    ·rename_i e0 bs0 u' xs hk
     split at he
     ·rename_i hc
      cases he
      have:=Ty.af hc;subst this
      obtain⟨te,ie,h1,h2,h3,h4,h5,h6,h7⟩:=T.bX ht Su
      have Sd:=T.size h2 w
      rw[h3] at Sd
      obtain⟨a,c,n,tt,r1,r2,r3,r4,a2,e,r6⟩:=RV.atom rfl hx
      simp at e;subst e
      obtain⟨q1,q2,q3,q4,a',cap,q5,q6,q7⟩:=hw.bh b _ (hB b _ hk)
      rw[q1] at r1;cases r1
      obtain⟨mm,b1,b2,b3,b4,b5,b6⟩:=B true len (c -lo') (by omega) Sm
      have:=b6 rfl;subst this
      generalize (bd l h none len).1=L at*
      generalize (bd l h none len).2.1=H at*
      refine⟨_,fq h1 Sd b1,RV.fD (Or.inr ⟨rfl,a,c,xs.length,u,q1,r2,by omega,r4,_,by rw[Nat.sub_sub],?_⟩)⟩
      rcases Nat.eq_zero_or_pos (H -L) with hz|hz
      ·exact Or.inl hz
      ·refine Or.inr ?_
       rw[if_neg (by omega)]
       rcases r6 with r6|r6
       ·omega
       ·rw[r6]
        rcases q7 with⟨_,_,q9⟩|⟨g,cc,q7,q8,q9,PJ,FR,yO⟩
        ·subst q9;simp at r3;omega
        ·rw[r2] at q5;cases q5
         subst q8
         simp[Addr.ja,Nat.add_mul]
     ·cases he
    ·cases he
   ·rename_i bs u b p lo' len Su
    split at he
    ·rename_i tt v hk
     split at he
     ·rename_i n u' Sl
      split at he
      ·rename_i hc
       cases he
       have:=Ty.af hc;subst this
       obtain⟨te,ie,h1,h2,h3,h4,h5,h6,h7⟩:=T.bX ht Su
       have Sd:=T.size h2 w
       rw[h3] at Sd
       obtain⟨n2,t2,r1,r2,r3,a,cap,e,r4,r5⟩:=RV.atom rfl hx
       simp at e;subst e
       obtain⟨q1,_⟩:=hw.bh b _ (hB b _ hk)
       have r1':=r1
       rw[q1,Sl] at r1';cases r1'
       obtain⟨mm,b1,b2,b3,b4,b5,b6⟩:=B true len cap r4 Sm
       generalize (bd l h m len).1=L at*
       generalize (bd l h m len).2.1=H at*
       refine⟨_,fq h1 Sd b1,RV.fD (Or.inr ⟨rfl,n,u,r1,r2,by omega,_,_,rfl,by omega,?_⟩)⟩
       rcases Nat.eq_zero_or_pos (H -L) with hz|hz
       ·exact Or.inl hz
       ·rcases r5 with r5|⟨g,r5,r6⟩
        ·omega
        ·refine Or.inr ⟨g,r5,?_⟩
         rw[if_neg (by omega),r6]
         simp[Addr.ja,Nat.add_mul,Nat.add_assoc]
      ·cases he
     ·cases he
    ·cases he
   ·rename_i n u b p Su
    split at he
    ·rename_i kk hk
     split at he
     ·rename_i n' u' Sl
      split at he
      ·rename_i hc
       cases he
       simp only[Bool.and_eq_true] at hc
       have:=Ty.af hc.1;subst this
       have:=Nat.eq_of_beq_eq_true hc.2;subst this
       obtain⟨te,h1,h2,h3⟩:=T.m9 ht Su
       have Sd:=T.size h2 w
       rw[h3] at Sd
       obtain⟨g,hg,e,hv⟩:=RV.atom rfl hx
       simp at e;subst e
       have hbt:=RB.bt (hw.bh b kk (hB b kk hk)) (oz (q:=.idx 0) (s:=u) Sl (by simp[Ty.sub,Ty.Ad]))
       rw[←hbt] at Sl
       obtain⟨mm,b1,b2,b3,b4,b5,b6⟩:=B false n n (Nat.le_refl _) Sm
       generalize (bd l h m n).1=L at*
       generalize (bd l h m n).2.1=H at*
       refine⟨_,mB h1 Sd b1,RV.fD (Or.inr ⟨rfl,n,u,Sl,hv,by omega,_,_,rfl,by omega,?_⟩)⟩
       rcases Nat.eq_zero_or_pos (H -L) with hz|hz
       ·exact Or.inl hz
       ·refine Or.inr ⟨g,hg,?_⟩
        rw[if_neg (by omega)]
        simp[Addr.ja]
      ·cases he
     ·cases he
    ·cases he
   ·rename_i n u n' u' xs Su
    split at he
    ·rename_i hc
     cases he
     simp only[Bool.and_eq_true] at hc
     have:=Ty.af hc.1.1.1;subst this
     have:=Nat.eq_of_beq_eq_true hc.1.1.2;subst this
     have hc1:=Nat.le_of_ble_eq_true hc.1.2
     have hc2:=Nat.le_of_ble_eq_true hc.2
     obtain⟨te,h1,h2,h3⟩:=T.m9 ht Su
     have Sd:=T.size h2 w
     rw[h3] at Sd
     obtain⟨b,o,cs,e,q1,q2,q3⟩:=RV.atom rfl hx
     simp at e;subst e
     obtain⟨hn,q3⟩:=q3
     obtain⟨mm,b1,b2,b3,b4,b5,b6⟩:=B false n n (Nat.le_refl _) Sm
     generalize (bd l h m n).1=L at*
     generalize (bd l h m n).2.1=H at*
     have hlen:(aS xs L H).length=H -L:=by simp[aS];omega
     refine⟨_,mB h1 Sd b1,RV.fD (Or.inr ⟨rfl,_,_,by rw[hlen],by rw[hlen];omega,by rw[hlen];exact Nat.le_trans (Nat.mul_le_mul_right _ (by omega)) hc1,by rw[hlen];omega,?_⟩)⟩
     rcases Nat.eq_zero_or_pos (H -L) with hz|hz
     ·exact Or.inl (List.eq_nil_of_length_eq_zero (by rw[hlen];exact hz))
     ·obtain⟨SE,z1,z2⟩:=aC.part q2 q3 L (H -L)
      refine Or.inr ⟨b,o+L*u.size,SE,?_,q1,z1,z2⟩
      rw[if_neg (by omega)]
      simp[Addr.ja]
    ·cases he
   ·rename_i s Su
    split at he
    ·cases he
     have h1:=T.strOf ht Su
     obtain⟨rfl,h2⟩:=RV.eF hx
     obtain⟨mm,b1,b2,b3,b4,b5,b6⟩:=B false s.length s.length (Nat.le_refl _) Sm
     have hvm:vm=none:=by
      cases vm with
      |none=>rfl
      |
       some v=>
       cases mx with
       |none=>exact hm.elim
       |some x=>cases x<;>first|(simp[v8] at em;done)|(rename_i t y;cases t<;>simp[v8] at em)
     subst hvm
     generalize (bd l h none s.length).1=L at*
     generalize (bd l h none s.length).2.1=H at*
     refine⟨.string ((⟨s.toArray⟩:ByteArray).extract L H),by simp[Instr.sliceAt,Instr.slice,underlying,h1,nb,b1],?_⟩
     have:(⟨s.toArray⟩:ByteArray).extract L H=⟨(aS s L H).toArray⟩:=by
      apply ByteArray.ext
      rw[ByteArray.data_extract]
      apply Array.ext'
      simp[aS,List.extract_eq_take_drop]
     rw[this]
     refine RV.str ?_
     have:(aS s L H).length=H -L:=by simp[aS];omega
     omega
    ·cases he
   ·cases he
  ·cases he
 ·cases he
end Go.Abs
namespace Go.Abs
def jD(G:bH)(d:Nat)(t:TypeId)(l c:Int):Option bw:=
 match G.at t with
 |
  some td=>match td.ty with
  | .slice bs u=>if u.pure then some ⟨.own d,[(d,some (.row td.e bs u (List.replicate l.toNat u.aX)))],[d],[0≤l,l≤c,c*(bs:Int)≤az]⟩ else none
  |_=>none
 |none=>none
def ko(G:bH)(d:Nat)(t:TypeId):AV→AV→Option bw
 | .val (.int _) l,.val (.int _) c=>jD G d t l c
 |_,_=>none
theorem qg{w:World}{S:Nat→Prop}{u:Ty}{cs:List Value}{n m:Nat}(h:aC (Rel w S u) cs (List.replicate n u.aX))(hm:m≤n):aC (Rel w S u) (cs.take (m*u.size)) (List.replicate m u.aX):=by
 have:=aC.take (n:=u.size) (fun _ _ h=>Rel.len h) m h
 rwa [List.take_replicate,Nat.min_eq_left hm] at this
theorem pa{P:Program}{G:bH}(T:aW P G){gl:Ctx}{σ:St}{E:Env}{a:Act}{w:World}(h:cK gl σ E a w){d:Nat}{t:TypeId}{k k':IntKind}{l c:Int}{r:bw}
 (he:jD G d t l c=some r) (Sm:dT r.vc) (SK:∀b∈r.fr,σ.fresh b):
 ∃v w' E',(Instr.makeSlice t (.int k l) (.int k' c)).run P w= .ok v w'∧cK gl {σ with hp:=aA σ.hp r.hw} E' a w'∧RV E' w' r.v v∧Ext gl.md (Own σ.hp E) E w (Own (aA σ.hp r.hw) E') E' w':=by
 unfold jD at he
 split at he
 ·rename_i td ht
  split at he
  ·rename_i bs u Su
   split at he
   ·rename_i hpure
    cases he
    obtain⟨v1,v2,v3,_⟩:=Sm
    obtain⟨te,ie,h1,h2,h3,h4,h5,h6,h7⟩:=T.bX ht Su
    obtain⟨i',d',h1i,_,Sd,_,z,hz,hz1,_⟩:=T.info h2
    rw[h4] at h1i;cases h1i
    rw[h3] at Sd hz1
    have hcm:(c:Int)≤az:=Int.le_trans (by
     have:c*1≤c*(bs:Int):=Int.mul_le_mul_of_nonneg_left (by omega) (by omega)
     omega) v3
    have Sb:(ie.bytes:Int)*c≤281474976710656:=by
     rw[h5,Int.mul_comm];unfold az at v3;omega
    have Ss:=run_make (P:=P) w t td.e ie z h1 h4 hz k k' l c v1 v2 Sb (by unfold az at hcm;omega)
    rw[Sd] at Ss
    have SO:=(fB (E:=E) (w:=w) hz1).2 hpure
    have hmade:=oE SO h6 c.toNat z.cells rfl
    have hcells:(madeCells z.cells (c.toNat*u.size))=((Array.range (c.toNat*u.size)).map (z.cells[· % z.cells.size]!)):=by
     simp[madeCells]
    rw[hcells] at Ss
    have hle:l.toNat≤c.toNat:=by omega
    have hrow:ll E w (w.alloc (.cells ((Array.range (c.toNat*u.size)).map (z.cells[· % z.cells.size]!)) td.e)) td.e u (.slice (some ⟨w.heap.size,0,none⟩) l.toNat c.toNat) (some w.heap.size) (List.replicate l.toNat u.aX):=by
     refine Or.inr ⟨w.heap.size,c.toNat,_,rfl,by simp,heap_alloc_new w _,by simpa using hle,?_,by simp,?_⟩
     ·unfold az at hcm;unfold maxLen;omega
     ·rw[List.length_replicate]
      exact qg hmade hle
    have kp:bm E w (E.at d (some w.heap.size) (.slice (some ⟨w.heap.size,0,none⟩) l.toNat c.toNat) (.arr (List.replicate l.toNat u.aX).length u)) (w.alloc (.cells ((Array.range (c.toNat*u.size)).map (z.cells[· % z.cells.size]!)) td.e)):=
     ⟨fun b hb=>heap_alloc_old w _ b (h.hw.slt b hb),fun b hb=>hb⟩
    have hlb:l.toNat*bs≤az:=by
     have:((l.toNat*bs:Nat):Int)≤c*(bs:Int):=by
      rw[Int.natCast_mul]
      exact Int.mul_le_mul_of_nonneg_right (by omega) (by omega)
     omega
    obtain⟨q1,q2⟩:=ll.RB (bs:=bs) (d:=d) hrow h6 (by simpa using hlb) (by simp;omega) kp
    obtain⟨z1,z2⟩:=h.fresh (SK d (by simp)) (w':=w.alloc _) (g:=some w.heap.size) rfl (Tp.r rfl rfl) rfl (by simp) (fun i hi=>heap_alloc_old w _ i hi) (fun i hi=>by cases hi;exact Nat.le_refl _) q1
    exact⟨_,_,_,Ss,z1,q2,z2⟩
   ·cases he
  ·cases he
 ·cases he
theorem qh{P:Program}{G:bH}(T:aW P G){gl:Ctx}{σ:St}{E:Env}{a:Act}{w:World}(h:cK gl σ E a w){d:Nat}{t:TypeId}{l c:AV}{vl vc:Value}(hl:RV E w l vl)(hc:RV E w c vc){r:bw}
 (he:ko G d t l c=some r) (Sm:dT r.vc) (SK:∀b∈r.fr,σ.fresh b):
 ∃v w' E',(Instr.makeSlice t vl vc).run P w= .ok v w'∧cK gl {σ with hp:=aA σ.hp r.hw} E' a w'∧RV E' w' r.v v∧Ext gl.md (Own σ.hp E) E w (Own (aA σ.hp r.hw) E') E' w':=by
 unfold ko at he
 split at he
 ·obtain⟨rfl,_⟩:=RV.bM hl
  obtain⟨rfl,_⟩:=RV.bM hc
  exact pa T h he Sm SK
 ·cases he
def bytesOf(s:List UInt8):List Int:=s.map fun b=>(b.toNat:Int)
def strOf(xs:List Int):List UInt8:=xs.map fun n=>UInt8.ofNat n.toNat
def uf(G:bH)(hb:Nat→Option aj)(s d:TypeId)(x:AV):Option AV:=
 match G.at s,G.at d with
 |
  some ts,some td=>match ts.ty,td.ty,x with
  | .str,.slice 1 (.int .u8),.val .str y=>(match G.at td.e with|some te=>if Ty.same te.ty (.int .u8) then some (.val (.slice 1 (.int .u8)) (bytesOf y)) else none|none=>none)
  | .str,.str,.val .str y=>some (.val .str y)
  | .slice 1 (.int .u8),.str,x=>(B9 hb 1 (.int .u8) x).map fun xs=>.val .str (strOf xs)
  |_,_,_=>none
 |_,_=>none
theorem cK.Jk{gl:Ctx}{σ:St}{E:Env}{a:Act}{w w':World}(h:cK gl σ E a w)(hos:w'.os=w.os)(hta:Tp gl.md w w')(hou:w'.output=w.output)(Sd:w'.heap.size=w.heap.size+1)(hold:∀i,i<w.heap.size→w'.heap[i]? =w.heap[i]?):
 cK gl σ {E with S:=fun i=>E.S i∨i=w.heap.size} a w'∧Ext gl.md (Own σ.hp E) E w (Own σ.hp {E with S:=fun i=>E.S i∨i=w.heap.size}) {E with S:=fun i=>E.S i∨i=w.heap.size} w':=by
 have kp:bm E w {E with S:=fun i=>E.S i∨i=w.heap.size} w':=⟨fun b hb=>hold b (h.hw.slt b hb),fun b hb=>Or.inl hb⟩
 have hw:HW gl {E with S:=fun i=>E.S i∨i=w.heap.size} w' σ.hp:=by
  refine⟨fun b k hb=>RB.mono kp (fun _ _=>⟨rfl,rfl,rfl⟩) (fun g hg=>hold g (Own.below h.hw ⟨b,k,hb,hg⟩)) (h.hw.bh b k hb),h.hw.sep,?_,?_,h.hw.ik kp⟩
  ·rintro b k g hb hg (hs|hs)
   ·exact h.hw.fo b k g hb hg hs
   ·have:=Own.below h.hw ⟨b,k,hb,hg⟩;omega
  ·rintro g (hs|hs)
   ·have:=h.hw.slt g hs;omega
   ·omega
 refine⟨h.carry kp (fun _ _=>⟨rfl,rfl,rfl⟩) hw,hos,hta,hou,by omega,fun g hg _=>hold g hg,fun g hg=>Or.inl hg,?_,fun g hg=>Or.inl hg,fun _ _=>⟨rfl,rfl,rfl⟩⟩
 rintro g (hs|hs)
 ·exact Or.inl hs
 ·exact Or.inr (Or.inr (by omega))
theorem sM{w:World}{S:Nat→Prop}:∀(l:List UInt8),aC (Rel w S (.int .u8)) (l.map fun b=>Value.int .u8 (b.toNat:Int)) (bytesOf l)
 |[]=>rfl
 |b::l=>⟨[.int .u8 (b.toNat:Int)],l.map fun b=>Value.int .u8 (b.toNat:Int),rfl,⟨rfl,by
  have h1:IntKind.u8.min=0:=by decide
  have h2:IntKind.u8.max=255:=by decide
  have:=b.toNat_lt
  constructor
  ·show IntKind.u8.min≤(b.toNat:Int);omega
  ·show(b.toNat:Int)≤IntKind.u8.max;omega⟩,sM l⟩
theorem qi{w:World}{S:Nat→Prop}:∀{xs:List Int}{cs:List Value},aC (Rel w S (.int .u8)) cs xs→cs=(strOf xs).map fun b=>Value.int .u8 (b.toNat:Int)
 |[],cs,h=>h
 |
  x::xs,cs,⟨v1,v2,e,h1,h2⟩=>by
  obtain⟨h3,h4,h5⟩:=h1
  subst e;subst h3
  rw[qi h2]
  have a1:IntKind.u8.min=0:=by decide
  have a2:IntKind.u8.max=255:=by decide
  have h4:(0:Int)≤x:=by rw[a1] at h4;exact h4
  have h5:x≤255:=by rw[a2] at h5;exact h5
  have:((UInt8.ofNat x.toNat).toNat:Int)=x:=by
   rw[UInt8.toNat_ofNat',Nat.mod_eq_of_lt (by omega)];omega
  show _= [Value.int .u8 ((UInt8.ofNat x.toNat).toNat:Int)]++_
  rw[this];rfl
theorem xZ{P:Program}{G:bH}(T:aW P G){gl:Ctx}{σ:St}{E:Env}{a:Act}{w:World}(h:cK gl σ E a w){hb:Nat→Option aj}(hB:HB hb σ.hp){s d:TypeId}{x r:AV}{vx:Value}(hx:RV E w x vx)(he:uf G hb s d x=some r):
 ∃v w' E',(convert s d vx).run P w= .ok v w'∧cK gl σ E' a w'∧RV E' w' r v∧Ext gl.md (Own σ.hp E) E w (Own σ.hp E') E' w':=by
 unfold uf at he
 split at he
 ·rename_i ts td hs hd
  split at he
  ·rename_i y h1 h2
   split at he
   ·rename_i te hte
    split at he
    ·rename_i SB
     cases he
     obtain⟨rfl,hy⟩:=RV.eF hx
     have u1:=T.strOf hs h1
     obtain⟨te',ie,u2,u3,u4,u5,u6,_⟩:=T.bX hd h2
     have u7:=T.intOf u3 u4
     have hr:=run_bytes_of_string (P:=P) w s d td.e ⟨y.toArray⟩ u1 u2 u7
     obtain⟨g1,g2⟩:=h.Jk (w':=w.drew.alloc (.cells (bytesRow ⟨y.toArray⟩ (grownCap w (ByteArray.size ⟨y.toArray⟩) 0 td.e)) td.e ((bytesRow ⟨y.toArray⟩ (grownCap w (ByteArray.size ⟨y.toArray⟩) 0 td.e)).size,(bytesRow ⟨y.toArray⟩ (grownCap w (ByteArray.size ⟨y.toArray⟩) 0 td.e)).size+1))) rfl (Tp.s rfl rfl) rfl (by simp) (fun i hi=>heap_alloc_old w.drew _ i hi)
     refine⟨_,_,_,hr,g1,?_,g2⟩
     have hge:=grownCap_ge w (ByteArray.size ⟨y.toArray⟩) 0 td.e
     have hl:(bytesOf y).length=y.length:=by simp[bytesOf]
     refine RV.fD (Or.inr ⟨rfl,some ⟨w.heap.size,0,none⟩,_,by rw[hl,nb],by rw[hl,←nb];exact hge,by rw[hl];omega,by rw[hl];exact hy,Or.inr ⟨w.heap.size,0,y.map fun b=>Value.int .u8 (b.toNat:Int),rfl,Or.inr rfl,?_,sM y⟩⟩)
     intro j v hj
     rw[Addr.ja,Nat.zero_add]
     have hc:=World.cell?_alloc_mark w.drew (bytesRow ⟨y.toArray⟩ (grownCap w (ByteArray.size ⟨y.toArray⟩) 0 td.e)) td.e ((bytesRow ⟨y.toArray⟩ (grownCap w (ByteArray.size ⟨y.toArray⟩) 0 td.e)).size,(bytesRow ⟨y.toArray⟩ (grownCap w (ByteArray.size ⟨y.toArray⟩) 0 td.e)).size+1) j
     rw[show w.drew.heap.size=w.heap.size from rfl] at hc
     rw[hc]
     have hjl:j<y.length:=by have:=(List.getElem?_eq_some_iff.1 hj).1;simpa using this
     rw[bytesRow_at _ _ j (by simpa using hjl)]
     rw[List.getElem?_map,List.getElem?_eq_getElem hjl] at hj
     simpa using hj
    ·cases he
   ·cases he
  ·rename_i y h1 h2
   cases he
   obtain⟨rfl,hy⟩:=RV.eF hx
   have u1:=T.strOf hs h1
   have u2:=T.strOf hd h2
   exact⟨_,w,E,by simp[convert,underlying,u1,u2],h,hx,Ext.refl _ _ _⟩
  ·rename_i h1 h2
   simp only[Option.map_eq_some_iff] at he
   obtain⟨xs,hxs,rfl⟩:=he
   obtain⟨ad,cap,rfl,q1,q2,q3,q4⟩:=ue h.hw hB hx hxs
   obtain⟨te,ie,u1,u2,u3,u4,u5,_⟩:=T.bX hs h1
   have u6:=T.intOf u2 u3
   have u7:=T.strOf hd h2
   have hl:(strOf xs).length=List.length xs:=by simp[strOf]
   refine⟨.string ⟨(strOf xs).toArray⟩,w,E,?_,h,RV.str (by rw[hl];exact q3),Ext.refl _ _ _⟩
   rcases q4 with q4|⟨g,o,cs,rfl,q5,q6⟩
   ·subst q4
    cases ad with
    |none=>simp[convert,underlying,u1,u6,u7,Conv.bytesToString,strOf];rfl
    |
     some ad=>
     have:=run_convert_bytes_back (P:=P) w s d ts.e ad cap [] u1 u6 u7 (fun j hj=>by simp at hj)
     exact this
   ·have hcs:=qi q6
    have:=run_convert_bytes_back (P:=P) w s d ts.e ⟨g,o,none⟩ cap (strOf xs) u1 u6 u7 (fun j hj=>by
     refine q5 j _ ?_
     rw[hcs,List.getElem?_map,List.getElem?_eq_getElem hj];rfl)
    rw[hl] at this
    exact this
  ·cases he
 ·cases he
end Go.Abs
namespace Go.Abs
def iP{α:Type}(xs ys:List α)(lo:Nat):List α:=xs.take lo++ys++xs.drop (lo+ys.length)
theorem zd{α:Type}{xs ys:List α}{lo:Nat}(h:lo+ys.length≤xs.length):(iP xs ys lo).length=xs.length:=by
 simp only[iP,List.length_append,List.length_take,List.length_drop];omega
theorem aC.iP{α:Type}{r:List Value→α→Prop}{n:Nat}(hn:∀vs x,r vs x→vs.length=n){xs ys:List α}{cs us:List Value}{lo:Nat}(hx:aC r cs xs)(hy:aC r us ys):
 aC r (cs.take (lo*n)++us++cs.drop ((lo+ys.length)*n)) (Abs.iP xs ys lo):=
 aC.append (aC.append (aC.take hn lo hx) hy) (aC.drop hn (lo+ys.length) hx)
theorem Jl{α:Type}(cs us:List α)(o m a:Nat)(_h:o+m≤cs.length)(ha:a+us.length≤m):
 cs.take o++(((cs.drop o).take m).take a++us++((cs.drop o).take m).drop (a+us.length))++cs.drop (o+m)=cs.take (o+a)++us++cs.drop (o+a+us.length):=by
 have h1:((cs.drop o).take m).take a=(cs.drop o).take a:=by rw[List.take_take,Nat.min_eq_left (by omega)]
 have h2:((cs.drop o).take m).drop (a+us.length)++cs.drop (o+m)=cs.drop (o+a+us.length):=by
  rw[List.drop_take,List.drop_drop]
  have:cs.drop (o+m)=(cs.drop (o+(a+us.length))).drop (m -(a+us.length)):=by rw[List.drop_drop];congr 1;omega
  rw[this,List.take_append_drop]
  congr 1;omega
 rw[h1,List.append_assoc,List.append_assoc,h2,←List.append_assoc,←List.append_assoc,List.take_add]
theorem Ca{P:Program}{gl:Ctx}{σ:St}{E:Env}{a:Act}{w:World}(h:cK gl σ E a w){b:Nat}{tt:Ty}{v v':AV}(hb:σ.hp[b]? =some (some (.var tt v))){p:Path}(hv:(E.bt b).valid p){n:Nat}{u:Ty}{xs:List u.den}
 (hg:v.get p=some (.val (.arr n u) xs)) {ys:List u.den} {us:List Value} (hu:aC (Rel w E.S u) us ys) {lo:Nat} (hlo:lo+ys.length≤n) (hs:v.set p (.val (.arr n u) (iP xs ys lo))=some v') (hc:v'.bB tt=true):
 ∃g w',E.g b=some g∧(storeCells ⟨g,(E.bt b).off p+lo*u.size,none⟩ us 0).run P w= .ok () w'∧cK gl {σ with hp:=σ.hp.set b (some (.var tt v'))} E a w'∧Ext gl.md (Own σ.hp E) E w (Own (σ.hp.set b (some (.var tt v'))) E) E w':=by
 have hk:=h.hw.bh b _ hb
 obtain⟨h1,h2,g,c,e,h3,h4,h5⟩:=hk
 rw[h1] at hv ⊢
 obtain⟨s,q1,q2,q3,q4⟩:=AV.rz h5 h2 hv hg
 have hse:s= .arr n u:=(Ty.af (by simpa[AV.bB] using q2)).symm
 subst hse
 obtain⟨hxl,hxr⟩:=q4
 have hul:us.length=ys.length*u.size:=aC.len (fun _ _ h=>Rel.len h) hu
 have SG:RC E w (.val (.arr n u) (iP xs ys lo)) ((((c.toList.drop (tt.off p)).take (n*u.size)).take (lo*u.size))++us++(((c.toList.drop (tt.off p)).take (n*u.size)).drop ((lo+ys.length)*u.size))):=
  ⟨by rw[zd (by rw[hxl];exact hlo)];exact hxl,aC.iP (fun _ _ h=>Rel.len h) hxr hu⟩
 have hnl:=RC.len SG
 obtain⟨s',p1,p2,p3,p4⟩:=AV.u9 SG h5 h2 hv (fun s' hs'=>by rw[q1] at hs';cases hs';exact hnl) hs
 rw[q1] at p1;cases p1
 have hm:lo*u.size+us.length≤n*u.size:=by rw[hul,←Nat.add_mul];exact Nat.mul_le_mul_right _ hlo
 have Sd:(Ty.arr n u).size=n*u.size:=rfl
 rw[Sd] at p3 p4
 have hcs:=Jl c.toList us (tt.off p) (n*u.size) (lo*u.size) p3 hm
 rw[show(lo+ys.length)*u.size=lo*u.size+us.length from by rw[hul,Nat.add_mul]] at p4
 rw[hcs] at p4
 rw[Array.length_toList] at p3
 have hst:=run_storeCells_at P g (tt.off p+lo*u.size) e us 0 c w h4 (by omega) (aC.sL hu)
 have kp:bm E w E (w.setRow g (c.toList.take (tt.off p+lo*u.size+0)++us++c.toList.drop (tt.off p+lo*u.size+0+us.length)).toArray):=
  ⟨fun i hi=>setRow_other w g i _ (fun e=>h.hw.fo b _ g hb h3 (e▸hi)),fun _ h=>h⟩
 have hrb:RB E (w.setRow g (c.toList.take (tt.off p+lo*u.size+0)++us++c.toList.drop (tt.off p+lo*u.size+0+us.length)).toArray) b (.var tt v'):=
  ⟨h1,hc,g,_,e,h3,setRow_heap w g c _ e _ h4,by simpa using RC.mono kp (fun _ _=>⟨rfl,rfl,rfl⟩) p4⟩
 have hw2:=h.hw.write hb (by simp) (fun i hi=>setRow_other w g i _ (fun e=>hi (by rw[e];exact h3))) hrb
 refine⟨g,_,h3,hst,h.carry kp (fun _ _=>⟨rfl,rfl,rfl⟩) hw2,⟨rfl,Tp.r rfl rfl,rfl,by simp,?_,fun _ h=>h,fun _ h=>Or.inl h,fun i hi=>Or.inl (Own.yI hb hi),fun _ _=>⟨rfl,rfl,rfl⟩⟩⟩
 intro i hi ho
 exact setRow_other w g i _ (fun e=>ho ⟨b,_,hb,by rw[e];exact h3⟩)
def zf(hb:Nat→Option aj)(b:Nat)(p:Path):Option ((_tt:Ty)×AV×(_n:Nat)×(u:Ty)×List u.den):=
 match hb b with
 |
  some (.var tt v)=>match v.get p with
  |some (.val (.arr n u) xs)=>some ⟨tt,v,n,u,xs⟩
  |_=>none
 |_=>none
def nL(G:bH)(hb:Nat→Option aj)(t:TypeId)(x y:AV):Option bw:=
 match G.at t with
 |
  some td=>match td.ty,x with
  |
   .slice bs u,.ka b p lo len=>match zf hb b p with
   |
    some ⟨tt,v,n,u',xs⟩=>match B9 hb bs u' y with
    |
     some ys=>match v.set p (.val (.arr n u') (iP xs (ys.take (min ys.length len)) lo)) with
     |some v'=>if Ty.same u u'&&v'.bB tt&&Nat.ble n az then some ⟨kJ (min ys.length len),[(b,some (.var tt v'))],[],[]⟩ else none
     |none=>none
    |none=>none
   |none=>none
  |_,_=>none
 |none=>none
theorem nM{P:Program}{G:bH}(T:aW P G){gl:Ctx}{σ:St}{E:Env}{a:Act}{w:World}(h:cK gl σ E a w){hb:Nat→Option aj}(hB:HB hb σ.hp){t t2 ty:TypeId}{x y:AV}{vx vy:Value}(hx:RV E w x vx)(hy:RV E w y vy){r:bw}(he:nL G hb t x y=some r):
 ∃v w',(Builtin.copy_ #[t,t2] ty #[vx,vy]).run P w= .ok v w'∧cK gl {σ with hp:=aA σ.hp r.hw} E a w'∧RV E w' r.v v∧Ext gl.md (Own σ.hp E) E w (Own (aA σ.hp r.hw) E) E w':=by
 unfold nL at he
 split at he
 ·rename_i td ht
  split at he
  ·rename_i bs u b p lo len Su
   split at he
   ·rename_i tt v n u' xs SA
    split at he
    ·rename_i ys hys
     split at he
     ·rename_i v' aA
      split at he
      ·rename_i hc
       cases he
       simp only[Bool.and_eq_true] at hc
       obtain⟨⟨c1,c2⟩,c3⟩:=hc
       have e:=Ty.af c1;subst e
       unfold zf at SA
       split at SA
       ·rename_i tt0 v0 hbk
        split at SA
        ·rename_i n0 u0 xs0 SU
         cases SA
         obtain⟨te,ie,h1,h2,h3,h4,h5,h6,h7⟩:=T.bX ht Su
         obtain⟨i',d',h1i,_,Sd,_⟩:=T.info h2
         rw[h4] at h1i;cases h1i
         rw[h3] at Sd
         obtain⟨n1,t1,r1,r2,r3,ad,cap,rx,r4,r5⟩:=RV.atom rfl hx
         simp at rx;subst rx
         have hbt:E.bt b=tt:=(h.hw.bh b _ (hB b _ hbk)).1
         have hr1:n1=n∧t1=u:=by
          obtain⟨q1,q2,g,c,e,q3,q4,q5⟩:=h.hw.bh b _ (hB b _ hbk)
          rw[hbt] at r1 r2
          obtain⟨s,z1,z2,_⟩:=AV.rz q5 q2 r2 SU
          have hse:=(Ty.af (by simpa[AV.bB] using z2)).symm
          rw[hse] at z1
          rw[z1] at r1;cases r1;exact⟨rfl,rfl⟩
         obtain⟨e1,e2⟩:=hr1;subst e1;subst e2
         obtain⟨ay,cy,ry,ry1,ry2,ry3,ry4⟩:=ue h.hw hB hy hys
         subst ry
         have hk:(ys.take (min ys.length len)).length=min ys.length len:=by rw[List.length_take];omega
         have hnm:=Nat.le_of_ble_eq_true c3
         rcases Nat.eq_zero_or_pos (min ys.length len) with hz|hz
         ·
          have hy0:ys.take (min ys.length len)= []:=List.eq_nil_of_length_eq_zero (by omega)
          have hspl:iP xs (ys.take (min ys.length len)) lo=xs:=by rw[hy0];simp[iP]
          obtain⟨g,w',w1,w2,w3,w4⟩:=Ca (P:=P) h (hB b _ hbk) r2 SU (ys:=ys.take (min ys.length len)) (us:=[]) (by rw[hy0];rfl) (lo:=lo) (by omega) aA c2
          have hw':w'=w:=by simp[storeCells] at w2;exact w2.symm
          subst hw'
          have Ss:(Builtin.copy_ #[t,t2] ty #[.slice ad len cap,.slice ay ys.length cy]).run P w'= .ok (goInt ((min ys.length len:Nat):Int)) w':=by
           have hz':Nat.min ys.length len=0:=hz
           have hf:∀ay:Option Addr,(Builtin.firstCells ie.size 0 (.slice ay ys.length cy)).run P w'= .ok #[] w':=by
            intro ay
            cases ay with
            |none=>exact run_firstCells_none ..
            |some a=>simpa using run_firstCells_some (P:=P) (w:=w') ie.size 0 a ys.length cy [] (by simp) (by intro j v h;simp at h)
           have hz2:((min ys.length len:Nat):Int)=0:=by rw[hz];rfl
           have hmin:Nat.min ys.length len=min ys.length len:=rfl
           simp only[hmin] at hz'
           rw[hz]
           simp[Builtin.copy_,underlying,h1,sizeOf,typeInfo,h4,Builtin.lenOf,hmin,hz,hf]
           cases ad<;>simp[storeCells]
          exact⟨_,w',Ss,w3,RV.len (by omega),w4⟩
         ·have hys0:ys≠[]:=by intro e;subst e;simp at hz
          rcases ry4 with ry4|⟨gy,oy,cs,ea,hr,SO⟩
          ·exact absurd ry4 hys0
          ·subst ea
           have hl0:len≠0:=by omega
           rcases r5 with r5|⟨gx,rg,ra⟩
           ·exact absurd r5 hl0
           ·subst ra
            have hcl:(cs.take (min ys.length len*t1.size)).length=min ys.length len*ie.size:=by
             have:=aC.len (fun _ _ h=>Rel.len h) SO
             rw[List.length_take,this,Sd,Nat.min_eq_left (Nat.mul_le_mul_right _ (by omega))]
            have hrel':=aC.take (n:=t1.size) (fun _ _ h=>Rel.len h) (min ys.length len) SO
            obtain⟨g,w',w1,w2,w3,w4⟩:=Ca (P:=P) h (hB b _ hbk) r2 SU hrel' (lo:=lo) (by omega) aA c2
            rw[rg] at w1;cases w1
            have hf:=run_firstCells_some (P:=P) (w:=w) ie.size (min ys.length len) ⟨gy,oy,none⟩ ys.length cy (cs.take (min ys.length len*t1.size)) hcl (hr.take _)
            have Ss:(Builtin.copy_ #[t,t2] ty #[.slice (some ⟨gx,(E.bt b).off p+lo*t1.size,none⟩) len cap,.slice (some ⟨gy,oy,none⟩) ys.length cy]).run P w= .ok (goInt ((min ys.length len:Nat):Int)) w':=by
             have hmin:Nat.min ys.length len=min ys.length len:=rfl
             simp[Builtin.copy_,underlying,h1,sizeOf,typeInfo,h4,Builtin.lenOf,hmin,hf,w2]
            exact⟨_,w',Ss,w3,RV.len (by omega),w4⟩
        ·cases SA
       ·cases SA
      ·cases he
     ·cases he
    ·cases he
   ·cases he
  ·cases he
 ·cases he
def ug(G:bH)(hb:Nat→Option aj)(t:TypeId)(x:AV):Option bw:=
 match G.at t with
 |
  some td=>match td.ty,x with
  |
   .slice _ u,.ka b p lo len=>match zf hb b p with
   |
    some ⟨tt,v,n,u',xs⟩=>match v.set p (.val (.arr n u') (iP xs (List.replicate len u'.aX) lo)) with
    |some v'=>if Ty.same u u'&&v'.bB tt&&u'.pure then some ⟨.bot,[(b,some (.var tt v'))],[],[]⟩ else none
    |none=>none
   |none=>none
  |_,_=>none
 |none=>none
theorem ya{P:Program}{G:bH}(T:aW P G){gl:Ctx}{σ:St}{E:Env}{a:Act}{w:World}(h:cK gl σ E a w){hb:Nat→Option aj}(hB:HB hb σ.hp){t ty:TypeId}{x:AV}{vx:Value}(hx:RV E w x vx){r:bw}(he:ug G hb t x=some r):
 ∃v w',(Builtin.clear_ #[t] ty #[vx]).run P w= .ok v w'∧cK gl {σ with hp:=aA σ.hp r.hw} E a w'∧RV E w' r.v v∧Ext gl.md (Own σ.hp E) E w (Own (aA σ.hp r.hw) E) E w':=by
 unfold ug at he
 split at he
 ·rename_i td ht
  split at he
  ·rename_i bs u b p lo len Su
   split at he
   ·rename_i tt v n u' xs SA
    split at he
    ·rename_i v' aA
     split at he
     ·rename_i hc
      cases he
      simp only[Bool.and_eq_true] at hc
      obtain⟨⟨c1,c2⟩,c3⟩:=hc
      have e:=Ty.af c1;subst e
      unfold zf at SA
      split at SA
      ·rename_i tt0 v0 hbk
       split at SA
       ·rename_i n0 u0 xs0 SU
        cases SA
        obtain⟨te,ie,h1,h2,h3,h4,h5,h6,h7⟩:=T.bX ht Su
        obtain⟨i',d',h1i,_,Sd,_,z,hz,hz1,_⟩:=T.info h2
        rw[h4] at h1i;cases h1i
        rw[h3] at Sd hz1
        obtain⟨n1,t1,r1,r2,r3,ad,cap,rx,r4,r5⟩:=RV.atom rfl hx
        simp at rx;subst rx
        have hbt:E.bt b=tt:=(h.hw.bh b _ (hB b _ hbk)).1
        have hr1:n1=n∧t1=u:=by
         obtain⟨q1,q2,g,c,e,q3,q4,q5⟩:=h.hw.bh b _ (hB b _ hbk)
         rw[hbt] at r1 r2
         obtain⟨s,z1,z2,_⟩:=AV.rz q5 q2 r2 SU
         have hse:=(Ty.af (by simpa[AV.bB] using z2)).symm
         rw[hse] at z1
         rw[z1] at r1;cases r1;exact⟨rfl,rfl⟩
        obtain⟨e1,e2⟩:=hr1;subst e1;subst e2
        have SO:=(fB (E:=E) (w:=w) hz1).2 c3
        have hzl:z.cells.size=t1.size:=by rw[←Array.length_toList];exact Rel.len SO
        have hmade:=oE SO h6 len z.cells rfl
        obtain⟨g,w',w1,w2,w3,w4⟩:=Ca (P:=P) h (hB b _ hbk) r2 SU hmade (lo:=lo) (by rw[List.length_replicate];omega) aA c2
        refine⟨.tuple #[],w',?_,w3,trivial,w4⟩
        rcases Nat.eq_zero_or_pos len with hz0|hz0
        ·subst hz0
         have hw':w'=w:=by simp[storeCells] at w2;exact w2.symm
         subst hw'
         cases ad<;>simp[Builtin.clear_,underlying,h1]
        ·rcases r5 with r5|⟨gx,rg,ra⟩
         ·omega
         ·subst ra
          rw[rg] at w1;cases w1
          have hzv:(zeroValue td.e).run P w= .ok z w:=by simp[zeroValue,typeInfo,h4,hz]
          obtain⟨m,rfl⟩:∃m,len=m+1:=⟨len -1,by omega⟩
          simp[Builtin.clear_,underlying,h1,hzv,Builtin.zeroCells,hzl]
          simp only[hzl,Array.toList_map,Array.toList_range] at w2
          rw[w2];rfl
       ·cases SA
      ·cases SA
     ·cases he
    ·cases he
   ·cases he
  ·cases he
 ·cases he
end Go.Abs
namespace Go.Abs
def sN{α:Type}(f:α→α→Bool):List α→List α→Bool
 |[],[]=>true
 |x::xs,y::ys=>f x y&&sN f xs ys
 |_,_=>false
def aP:(t:Ty)→t.den→t.den→Bool
 | .int _,x,y=>decide (@Eq Int x y)
 | .bool,x,y=>decide (@Eq Bool x y)
 | .str,x,y=>decide (@Eq (List UInt8) x y)
 | .arr _ t,x,y=>sN (aP t) x y
 | .slice _ t,x,y=>sN (aP t) x y
 | .pair a b,x,y=>aP a x.1 y.1&&aP b x.2 y.2
 | .unit,_,_=>true
 | .au _,_,_=>true
 | .fns _,x,y=>decide (@Eq (List (Option Nat)) x y)
theorem uh{α:Type}{f:α→α→Bool}(hf:∀x y,f x y=true↔x=y):∀(xs ys:List α),sN f xs ys=true↔xs=ys
 |[],[]=>by simp[sN]
 |[],_::_=>by simp[sN]
 |_::_,[]=>by simp[sN]
 |x::xs,y::ys=>by simp[sN,hf,uh hf xs ys]
theorem sO:∀(t:Ty)(x y:t.den),aP t x y=true↔x=y:=by
 intro t
 induction t with
 |int k=>intro x y;simp[aP]
 |bool=>intro x y;simp[aP]
 |str=>intro x y;simp[aP]
 |arr n t ih=>intro x y;exact uh ih x y
 |slice n t ih=>intro x y;exact uh ih x y
 |pair a b Sn Sk=>intro x y;simp[aP,Sn,Sk,Prod.ext_iff]
 |unit=>intro x y;simp[aP]
 |au k=>intro x y;simp[aP]
 |fns n=>intro x y;simp[aP]
def AH(k:TypeId→Ty→Bool):List Field→Ty→Bool
 |[],.unit=>true
 |f::fs,.pair a b=> !(f.name== "_")&&k f.type a&&AH k fs b
 |_,_=>false
def fH(P:Program)(G:bH):Nat→TypeId→Ty→Bool
 |0,_,_=>false
 |
  n+1,t,ty=>match G.at t with
  |
   some td=>Ty.same td.ty ty&&(match ty with
   | .int _| .bool| .str=>true
   | .arr _ u=>fH P G n td.e u
   | .pair a b=> !P.stoodInHeld t&&(match P.underlying t with|some (.struct fs)=>AH (fH P G n) fs.toList (.pair a b)|_=>false)
   |_=>false)
  |none=>false
section
variable{P:Program} {G:bH} (T:aW P G) {E:Env} {w:World}
include T
theorem iz{t:TypeId}{td:TD}(ht:G.at t=some td){x:td.ty.den}{cs:Array Value}{off:Nat}(h:Rel w E.S td.ty ((cs.toList.drop off).take td.ty.size) x)(hl:off+td.ty.size≤cs.size):
 ∃v,(part t cs off).run P w= .ok v w∧cZ E w (.val td.ty x) v:=by
 by_cases ha:td.ty.isAgg=true
 ·refine⟨.agg (cs.extract off (off+td.ty.size)),by simp[part,T.isAgg ht,T.size ht,ha],Or.inl ⟨ha,_,rfl,?_⟩⟩
  rw[Array.toList_extract,List.extract_eq_take_drop,Nat.add_sub_cancel_left]
  exact h
 ·have ha':td.ty.isAgg=false:=by simpa using ha
  have h1:td.ty.size=1:=by cases h:td.ty<;>rw[h] at ha'<;>simp[Ty.isAgg] at ha'<;>rfl
  rw[h1] at h hl
  have Sg:off<cs.size:=by omega
  refine⟨cs[off],by simp[part,T.isAgg ht,ha',Sg],Or.inr ⟨ha',?_⟩⟩
  have:(cs.toList.drop off).take 1= [cs[off]]:=by
   rw[List.drop_eq_getElem_cons (by simpa using Sg)];simp
  rw[this] at h;exact h
def EqAt(P:Program)(E:Env)(w:World)(d:Nat)(t:TypeId)(ty:Ty):Prop:=
 ∀(x y:ty.den)(vx vy:Value),cZ E w (.val ty x) vx→cZ E w (.val ty y) vy→(Op.equalIn d t vx vy).run P w= .ok (aP ty x y) w
theorem oK{d:Nat}{k:TypeId→Ty→Bool}(hk:∀t td,G.at t=some td→k t td.ty=true→EqAt P E w d t td.ty){cx cy:Array Value}:
 ∀(fs:List Field)(ty:Ty)(off:Nat)(x y:ty.den),aR G fs off ty=true→AH k fs ty=true→off+ty.size≤cx.size→off+ty.size≤cy.size→
  Rel w E.S ty ((cx.toList.drop off).take ty.size) x→Rel w E.S ty ((cy.toList.drop off).take ty.size) y→(Op.eqFields d cx cy fs).run P w= .ok (aP ty x y) w
 |
  [],ty,off,x,y,hf,he,_,_,_,_=>by
  cases ty<;>simp[aR] at hf
  simp[Op.eqFields,aP]
 |
  f::fs,ty,off,x,y,hf,he,hlx,hly,hx,hy=>by
  cases ty with
  |
   pair a b=>
   simp only[aR,Bool.and_eq_true] at hf
   obtain⟨⟨⟨h1,h2⟩,h3⟩,h4⟩:=hf
   simp only[AH,Bool.and_eq_true,Bool.not_eq_true',beq_eq_false_iff_ne] at he
   obtain⟨⟨e1,e2⟩,e3⟩:=he
   split at h1
   ·rename_i td htd
    have:=Ty.af h1;subst this
    have h2:=Nat.eq_of_beq_eq_true h2
    simp only[Ty.size] at hlx hly hx hy
    obtain⟨v1,v2,ex,hx1,hx2⟩:=hx
    obtain⟨u1,u2,ey,hy1,hy2⟩:=hy
    have lx1:=Rel.len hx1
    have ly1:=Rel.len hy1
    have cut:∀(c:Array Value)(v1 v2:List Value),(c.toList.drop off).take (td.ty.size+b.size)=v1++v2→v1.length=td.ty.size→
     (c.toList.drop off).take td.ty.size=v1∧(c.toList.drop (off+td.ty.size)).take b.size=v2:=by
     intro c v1 v2 e hl
     constructor
     ·have:((c.toList.drop off).take (td.ty.size+b.size)).take td.ty.size=v1:=by rw[e,←hl];simp
      rwa [List.take_take,Nat.min_eq_left (by omega)] at this
     ·have:((c.toList.drop off).take (td.ty.size+b.size)).drop td.ty.size=v2:=by rw[e,←hl];simp
      rwa [List.drop_take,List.drop_drop,Nat.add_sub_cancel_left] at this
    obtain⟨cx1,cx2⟩:=cut cx v1 v2 ex lx1
    obtain⟨cy1,cy2⟩:=cut cy u1 u2 ey ly1
    rw[←cx1] at hx1;rw[←cx2] at hx2;rw[←cy1] at hy1;rw[←cy2] at hy2
    obtain⟨vx,p1,p2⟩:=iz T htd hx1 (by omega)
    obtain⟨vy,p3,p4⟩:=iz T htd hy1 (by omega)
    have heq:=hk f.type td htd e2 x.1 y.1 vx vy p2 p4
    have hrest:=oK hk fs b (off+td.ty.size) x.2 y.2 h4 e3 (by omega) (by omega) hx2 hy2
    simp only[Op.eqFields,Sem.run_ite,if_pos e1,Sem.run_bind,h2,p1,p3,Result.andThen_ok,heq]
    cases hq:aP td.ty x.1 y.1 with
    |false=>simp[aP,hq]
    |true=>simp only[Bool.not_true,Bool.false_eq_true,if_false,hrest,aP,hq,Bool.true_and]
   ·cases h1
  |_=>simp[aR] at hf
theorem qk{d:Nat}{e:TypeId}{te:TD}(hte:G.at e=some te)(hk:EqAt P E w d e te.ty){cx cy:Array Value}:
 ∀(n i:Nat)(xs ys:List te.ty.den),xs.length=n→ys.length=n→(i+n)*te.ty.size≤cx.size→(i+n)*te.ty.size≤cy.size→
  aC (Rel w E.S te.ty) ((cx.toList.drop (i*te.ty.size)).take (n*te.ty.size)) xs→aC (Rel w E.S te.ty) ((cy.toList.drop (i*te.ty.size)).take (n*te.ty.size)) ys→
  (Op.eqItems d e te.ty.size cx cy (List.range' i n)).run P w= .ok (sN (aP te.ty) xs ys) w
 |
  0,i,xs,ys,hx,hy,_,_,_,_=>by
  have e1:=List.eq_nil_of_length_eq_zero hx
  have e2:=List.eq_nil_of_length_eq_zero hy
  subst e1;subst e2
  simp[Op.eqItems,sN]
 |
  n+1,i,x::xs,y::ys,hx,hy,hlx,hly,⟨v1,v2,ex,hx1,hx2⟩,⟨u1,u2,ey,hy1,hy2⟩=>by
  have lx1:=Rel.len hx1
  have ly1:=Rel.len hy1
  have hb:(i+(n+1))*te.ty.size=(i+1+n)*te.ty.size:=by congr 1;omega
  have hb2:(i+1+n)*te.ty.size=i*te.ty.size+te.ty.size+n*te.ty.size:=by rw[Nat.add_mul,Nat.add_mul,Nat.one_mul]
  have cut:∀(c:Array Value)(v1 v2:List Value),(c.toList.drop (i*te.ty.size)).take ((n+1)*te.ty.size)=v1++v2→v1.length=te.ty.size→
   (c.toList.drop (i*te.ty.size)).take te.ty.size=v1∧(c.toList.drop ((i+1)*te.ty.size)).take (n*te.ty.size)=v2:=by
   intro c v1 v2 e hl
   have hn:(n+1)*te.ty.size=te.ty.size+n*te.ty.size:=by rw[Nat.add_mul,Nat.one_mul,Nat.add_comm]
   rw[hn] at e
   constructor
   ·have:((c.toList.drop (i*te.ty.size)).take (te.ty.size+n*te.ty.size)).take te.ty.size=v1:=by rw[e,←hl];simp
    rwa [List.take_take,Nat.min_eq_left (by omega)] at this
   ·have:((c.toList.drop (i*te.ty.size)).take (te.ty.size+n*te.ty.size)).drop te.ty.size=v2:=by rw[e,←hl];simp
    rwa [List.drop_take,List.drop_drop,Nat.add_sub_cancel_left,show i*te.ty.size+te.ty.size=(i+1)*te.ty.size from by rw[Nat.add_mul,Nat.one_mul]] at this
  obtain⟨cx1,cx2⟩:=cut cx v1 v2 ex lx1
  obtain⟨cy1,cy2⟩:=cut cy u1 u2 ey ly1
  rw[←cx1] at hx1;rw[←cx2] at hx2;rw[←cy1] at hy1;rw[←cy2] at hy2
  obtain⟨vx,p1,p2⟩:=iz T hte hx1 (by omega)
  obtain⟨vy,p3,p4⟩:=iz T hte hy1 (by omega)
  have heq:=hk x y vx vy p2 p4
  have hrest:=qk hte hk n (i+1) xs ys (by simpa using hx) (by simpa using hy) (by omega) (by omega) hx2 hy2
  rw[List.range'_succ]
  simp only[Op.eqItems,Sem.run_bind,p1,p3,Result.andThen_ok,heq]
  cases hq:aP te.ty x y with
  |false=>simp[sN,hq]
  |true=>simp only[Bool.not_true,Bool.false_eq_true,if_false,sN,hq,Bool.true_and];simpa using hrest
 |n+1,i,[],_,hx,_,_,_,_,_=>by simp at hx
 |n+1,i,_::_,[],_,hy,_,_,_,_=>by simp at hy
theorem ui(d:Nat):∀(n:Nat)(t:TypeId)(td:TD),G.at t=some td→fH P G n t td.ty=true→EqAt P E w (d+n) t td.ty
 |0,t,td,ht,h=>by simp[fH] at h
 |
  n+1,t,td,ht,h=>by
  have ih:=fun t td ht h=>ui d n t td ht h
  unfold fH at h
  rw[ht] at h
  simp only[Bool.and_eq_true] at h
  obtain⟨_,h⟩:=h
  intro x y vx vy hx hy
  rw[show d+(n+1)=(d+n)+1 from rfl]
  obtain⟨ty,te,te2⟩:=td
  simp only at h x y hx hy
  cases ty with
  |
   int k=>
   have hu:=T.intOf ht rfl
   obtain⟨rfl,_⟩:=RV.bM (RV.fD hx)
   obtain⟨rfl,_⟩:=RV.bM (RV.fD hy)
   rw[run_equalIn_int w (d+n) t k k _ _ hu]
   simp[aP];rfl
  |
   bool=>
   have hu:P.underlying t=some .bool:=by
    obtain⟨ii,dd,_,h1,_,h2,_⟩:=T.info ht
    have Sc:=cn h2
    rw[h1]
    cases hd:dd with
    |bool=>rfl
    |struct fs=>subst hd;simp[cm,Ty.isAgg] at Sc
    |array n e=>subst hd;simp[cm,Ty.isAgg] at Sc
    |slice e=>subst hd;simp[a8,Ty.same] at h2
    |map k e=>subst hd;simp[a8,Ty.same] at h2
    |_=>subst hd;simp[a8,Ty.same] at h2
   have:=RV.cI (RV.fD hx);subst this
   have:=RV.cI (RV.fD hy);subst this
   rw[run_equalIn_bool' w (d+n) t _ _ hu]
   simp[aP];rfl
  |
   str=>
   have hu:=T.strOf ht rfl
   obtain⟨rfl,_⟩:=RV.eF (RV.fD hx)
   obtain⟨rfl,_⟩:=RV.eF (RV.fD hy)
   rw[run_equalIn_string w (d+n) t _ _ hu]
   have:∀(a b:List UInt8),(a==b)=decide (a=b):=fun a b=>by
    by_cases h:a=b
    ·subst h;simp
    ·simp[h]
   simp only[ByteArray.toList_mk,aP]
   exact congrArg (fun b=>Result.ok b w) (this x y)
  |
   arr m u=>
   obtain⟨tde,h1,h2,h3⟩:=T.m9 ht rfl
   simp only at h h1 h2 h3
   subst h3
   have hk:=ih te tde h2 h
   obtain⟨ie,_,hi,_,Sd,_⟩:=T.info h2
   rcases hx with⟨_,cx,rfl,hx1,hx2⟩|⟨hx,_⟩
   ·rcases hy with⟨_,cy,rfl,hy1,hy2⟩|⟨hy,_⟩
    ·rw[run_equalIn_array w (d+n) cx cy h1 hi]
     have hcell:P.cellsOf te=tde.ty.size:=by simp[Program.cellsOf,hi,Sd]
     rw[hcell,List.range_eq_range']
     have lx:=aC.len (n:=tde.ty.size) (fun _ _ h=>Rel.len h) hx2
     have ly:=aC.len (n:=tde.ty.size) (fun _ _ h=>Rel.len h) hy2
     rw[Array.length_toList] at lx ly
     rw[hx1] at lx;rw[hy1] at ly
     refine qk T h2 hk m 0 x y hx1 hy1 (by rw[Nat.zero_add,lx];exact Nat.le_refl _) (by rw[Nat.zero_add,ly];exact Nat.le_refl _) ?_ ?_
     ·simp only[Nat.zero_mul,List.drop_zero];rw[List.take_of_length_le (by simp[lx])];exact hx2
     ·simp only[Nat.zero_mul,List.drop_zero];rw[List.take_of_length_le (by simp[ly])];exact hy2
    ·simp[AV.isAgg,Ty.isAgg] at hy
   ·simp[AV.isAgg,Ty.isAgg] at hx
  |
   pair a b=>
   obtain⟨fs,h1,h2⟩:=T.structOf ht rfl
   simp only[Bool.and_eq_true,h1] at h
   obtain⟨e1,e2⟩:=h
   have hfo:P.fieldsOf t=fs:=by simp[Program.fieldsOf,h1]
   rcases hx with⟨_,cx,rfl,hx⟩|⟨hx,_⟩
   ·rcases hy with⟨_,cy,rfl,hy⟩|⟨hy,_⟩
    ·rw[run_equalIn_struct w (d+n) t cx cy (by rw[hfo];exact h1) (by simpa using e1),hfo]
     have lx:=Rel.len hx
     have ly:=Rel.len hy
     rw[Array.length_toList] at lx ly
     refine oK T ih fs.toList (.pair a b) 0 x y h2 e2 (by omega) (by omega) ?_ ?_
     ·rw[List.drop_zero,List.take_of_length_le (by simp[lx])];exact hx
     ·rw[List.drop_zero,List.take_of_length_le (by simp[ly])];exact hy
    ·simp[AV.isAgg,Ty.isAgg] at hy
   ·simp[AV.isAgg,Ty.isAgg] at hx
  |_=>simp at h
end
def Jm(P:Program)(G:bH)(op:BinOp)(t:TypeId):AV→AV→Option (AV×List Prop)
 |
  .val u x,.val v y=>match G.at t with
  |
   some td=>if h:Ty.same u td.ty&&Ty.same v td.ty&&td.ty.isAgg then(match op with
   | .eql=>some (.val .bool (aP td.ty (Ty.af (by simp at h;exact h.1.1)▸x) (Ty.af (by simp at h;exact h.1.2)▸y)),[fH P G 40 t td.ty=true,P.eqGuardType P.depth t=false])
   | .neq=>some (.val .bool (!aP td.ty (Ty.af (by simp at h;exact h.1.1)▸x) (Ty.af (by simp at h;exact h.1.2)▸y)),[fH P G 40 t td.ty=true,P.eqGuardType P.depth t=false])
   |_=>none) else none
  |none=>none
 |_,_=>none
theorem Er{P:Program}{G:bH}(T:aW P G){E:Env}{w:World}{op:BinOp}{t:TypeId}{x y:AV}{vx vy:Value}{ox oy:Operand}{r:AV}{vc:List Prop}(hx:RV E w x vx)(hy:RV E w y vy)(h:Jm P G op t x y=some (r,vc))(Sm:dT vc):
 (eqGuard op t ox oy vx vy).run P w= .ok () w∧∃v,(binOp op t vx vy).run P w= .ok v w∧RV E w r v:=by
 unfold Jm at h
 split at h
 ·rename_i u x v y
  split at h
  ·rename_i td ht
   split at h
   ·rename_i hc
    simp only[Bool.and_eq_true] at hc
    have e1:=Ty.af hc.1.1
    have e2:=Ty.af hc.1.2
    subst e1;subst e2
    have hx0:cZ E w (.val td.ty x) vx:=RV.mq rfl hx
    have hy0:cZ E w (.val td.ty y) vy:=RV.mq rfl hy
    have main:fH P G 40 t td.ty=true→P.eqGuardType P.depth t=false→∃cx cy,vx= .agg cx∧vy= .agg cy∧(Op.equalIn 10000 t vx vy).run P w= .ok (aP td.ty x y) w:=by
     intro q1 _
     have:=ui T (E:=E) (w:=w) 9960 40 t td ht q1 x y vx vy hx0 hy0
     rcases hx0 with⟨_,cx,ex,_⟩|⟨hq,_⟩
     ·rcases hy0 with⟨_,cy,ey,_⟩|⟨hq,_⟩
      ·exact⟨cx,cy,ex,ey,this⟩
      ·simp[AV.isAgg,hc.2] at hq
     ·simp[AV.isAgg,hc.2] at hq
    split at h
    ·cases h
     obtain⟨q1,q2,_⟩:=Sm
     obtain⟨cx,cy,rfl,rfl,q3⟩:=main q1 q2
     refine⟨run_eqGuard_agg w _ t ox oy cx cy q2,_,by rw[run_eql_struct,q3];rfl,RV.bool⟩
    ·cases h
     obtain⟨q1,q2,_⟩:=Sm
     obtain⟨cx,cy,rfl,rfl,q3⟩:=main q1 q2
     refine⟨run_eqGuard_agg w _ t ox oy cx cy q2,_,by rw[run_neq_struct,q3];rfl,RV.bool⟩
    ·cases h
   ·cases h
  ·cases h
 ·cases h
end Go.Abs
namespace Go.Abs
def dV{α:Type}(kt:Ty)(k:kt.den):List (kt.den×α)→Nat→Option (Nat×α)
 |[],_=>none
 |e::es,i=>if aP kt k e.1 then some (i,e.2) else dV kt k es (i+1)
def ql{α:Type}(kt:Ty)(k:kt.den):List (kt.den×α)→Bool
 |[]=>false
 |e::es=>aP kt k e.1||ql kt k es
def fO(kt vt:Ty)(k:kt.den):List (kt.den×vt.den)→vt.den
 |[]=>vt.aX
 |e::es=>if aP kt k e.1 then e.2 else fO kt vt k es
def eo{α:Type}(kt:Ty)(k:kt.den)(v:α):List (kt.den×α)→List (kt.den×α)
 |[]=>[(k,v)]
 |e::es=>if aP kt k e.1 then(k,v)::es else e::eo kt k v es
def Ty.keyed:Ty→Bool
 | .int _| .bool| .str| .unit=>true
 | .arr _ t=>t.keyed
 | .pair a b=>a.keyed&&b.keyed
 |_=>false
theorem Cb{α:Type}{f:α→α→Bool}(h:∀x y,f x y=true↔x=y):∀(xs ys:List α),sN f xs ys=true↔xs=ys
 |[],[]=>by simp[sN]
 |[],_::_=>by simp[sN]
 |_::_,[]=>by simp[sN]
 |x::xs,y::ys=>by simp[sN,h,Cb h xs ys]
theorem dG:∀{t:Ty},t.keyed=true→∀(x y:t.den),aP t x y=true↔x=y
 | .int _,_,x,y=>by simp[aP]
 | .bool,_,x,y=>by simp[aP]
 | .str,_,x,y=>by simp[aP]
 | .arr _ t,h,x,y=>Cb (fun a b=>dG (t:=t) h a b) x y
 |
  .pair a b,h,x,y=>by
  simp only[Ty.keyed,Bool.and_eq_true] at h
  simp only[aP,Bool.and_eq_true,dG h.1,dG h.2]
  exact⟨fun e=>Prod.ext e.1 e.2,fun e=>by rw[e];exact⟨rfl,rfl⟩⟩
 | .unit,_,x,y=>by simp[aP]
 | .slice _ _,h,_,_=>by simp[Ty.keyed] at h
 | .au _,h,_,_=>by simp[Ty.keyed] at h
 | .fns _,h,_,_=>by simp[Ty.keyed] at h
theorem aC.fn{α:Type}{r:List Value→α→Prop}{n:Nat}(hn:∀vs x,r vs x→vs.length=n)(h:∀vs us x,r vs x→r us x→vs=us):∀{xs:List α}{vs us:List Value},aC r vs xs→aC r us xs→vs=us
 |[],vs,us,h1,h2=>by simp[aC] at h1 h2;rw[h1,h2]
 |x::xs,_,_,⟨a1,a2,e1,r1,r2⟩,⟨b1,b2,e2,s1,s2⟩=>by rw[e1,e2,h _ _ x r1 s1,aC.fn hn h r2 s2]
theorem Rel.fn{w:World}{S:Nat→Prop}:∀{t:Ty},t.keyed=true→∀(vs us:List Value)(x:t.den),Rel w S t vs x→Rel w S t us x→vs=us
 | .int _,_,vs,us,x,h1,h2=>by rw[h1.1,h2.1]
 | .bool,_,vs,us,x,h1,h2=>by simp only[Rel] at h1 h2;rw[h1,h2]
 | .str,_,vs,us,x,h1,h2=>by rw[h1.1,h2.1]
 | .arr _ t,h,vs,us,x,h1,h2=>aC.fn (fun _ _=>Rel.len) (fun a b y=>Rel.fn (t:=t) h a b y) h1.2 h2.2
 |
  .pair a b,h,vs,us,x,⟨a1,a2,e1,r1,r2⟩,⟨b1,b2,e2,s1,s2⟩=>by
  simp only[Ty.keyed,Bool.and_eq_true] at h
  rw[e1,e2,Rel.fn h.1 _ _ _ r1 s1,Rel.fn h.2 _ _ _ r2 s2]
 | .unit,_,vs,us,x,h1,h2=>by simp only[Rel] at h1 h2;rw[h1,h2]
 | .slice _ _,h,_,_,_,_,_=>by simp[Ty.keyed] at h
 | .au _,h,_,_,_,_,_=>by simp[Ty.keyed] at h
 | .fns _,h,_,_,_,_,_=>by simp[Ty.keyed] at h
def Value.bare:Value→Bool
 | .int _ _| .bool _| .string _=>true
 |_=>false
theorem Rel.bare{w:World}{S:Nat→Prop}:∀{t:Ty},t.keyed=true→∀(vs:List Value)(x:t.den),Rel w S t vs x→∀v∈vs,Value.bare v=true
 | .int _,_,vs,x,h,v,hv=>by rw[h.1] at hv;simp at hv;subst hv;rfl
 | .bool,_,vs,x,h,v,hv=>by simp only[Rel] at h;rw[h] at hv;simp at hv;subst hv;rfl
 | .str,_,vs,x,h,v,hv=>by rw[h.1] at hv;simp at hv;subst hv;rfl
 |
  .arr _ t,h,vs,x,h1,v,hv=>by
  have key:∀(xs:List t.den)(vs:List Value),aC (Rel w S t) vs xs→∀v∈vs,Value.bare v=true:=by
   intro xs
   induction xs with
   |nil=>intro vs h v hv;simp[aC] at h;subst h;cases hv
   |
    cons y ys ih=>
    rintro vs ⟨a1,a2,e1,r1,r2⟩ v hv
    rw[e1] at hv
    rcases List.mem_append.1 hv with hv|hv
    ·exact Rel.bare (t:=t) h _ _ r1 v hv
    ·exact ih _ r2 v hv
  exact key x vs h1.2 v hv
 |
  .pair a b,h,vs,x,⟨a1,a2,e1,r1,r2⟩,v,hv=>by
  simp only[Ty.keyed,Bool.and_eq_true] at h
  rw[e1] at hv
  rcases List.mem_append.1 hv with hv|hv
  ·exact Rel.bare h.1 _ _ r1 v hv
  ·exact Rel.bare h.2 _ _ r2 v hv
 | .unit,_,vs,x,h,v,hv=>by simp only[Rel] at h;rw[h] at hv;cases hv
 | .slice _ _,h,_,_,_,_,_=>by simp[Ty.keyed] at h
 | .au _,h,_,_,_,_,_=>by simp[Ty.keyed] at h
 | .fns _,h,_,_,_,_,_=>by simp[Ty.keyed] at h
theorem ln{n:Nat}{v:Value}(h:Value.bare v=true):Instr.sameBits n v v=true:=by
 cases v with
 |int k m=>cases n<;>simp[Instr.sameBits]
 |bool b=>cases n<;>simp[Instr.sameBits]
 |
  string s=>
  have:(s==s)=true:=by
   have:(s.data==s.data)=true:=by simp
   exact this
  cases n<;>simp only[Instr.sameBits]<;>exact this
 |_=>simp[Value.bare] at h
theorem cZ.fn{E:Env}{w:World}{t:Ty}(hk:t.keyed=true){x:t.den}{v u:Value}(hv:cZ E w (.val t x) v)(hu:cZ E w (.val t x) u):v=u∧Instr.sameBits 10000 v v=true:=by
 rcases hv with⟨h1,cs,e,h2⟩|⟨h1,h2⟩
 ·rcases hu with⟨k1,ds,e',k2⟩|⟨k1,_⟩
  ·have:=Rel.fn hk _ _ _ h2 k2
   have e2:cs=ds:=Array.ext' this
   subst e;subst e';subst e2
   refine⟨rfl,?_⟩
   show Instr.sameBits (9999+1) _ _=true
   simp only[Instr.sameBits,beq_self_eq_true,Bool.true_and,List.all_eq_true]
   intro p hp
   have hb:=Rel.bare hk _ _ h2
   have:p.1=p.2∧p.1∈cs.toList:=by
    have key:∀(l:List Value)(p:Value×Value),p∈l.zip l→p.1=p.2∧p.1∈l:=by
     intro l
     induction l with
     |nil=>intro p hp;cases hp
     |
      cons x l ih=>
      intro p hp
      rcases List.mem_cons.1 hp with hp|hp
      ·subst hp;simp
      ·exact⟨(ih p hp).1,List.mem_cons_of_mem _ (ih p hp).2⟩
    exact key _ p hp
   obtain⟨p1,p2⟩:=p
   simp only at this ⊢
   rw[←this.1]
   exact ln (hb p1 this.2)
  ·rw[h1] at k1;cases k1
 ·rcases hu with⟨k1,_⟩|⟨k1,k2⟩
  ·rw[h1] at k1;cases k1
  ·have:=Rel.fn hk _ _ _ h2 k2
   simp at this
   exact⟨this,ln (Rel.bare hk _ _ h2 v (by simp))⟩
section
variable{P:Program} {G:bH} (T:aW P G) {E:Env} {w:World}
include T
theorem dH(em:Bool)(d:Nat):∀(n:Nat)(t:TypeId)(td:TD),G.at t=some td→fH P G n t td.ty=true→∀(x:td.ty.den)(v:Value),cZ E w (.val td.ty x) v→(Instr.checkKey em (d+n) t v).run P w= .ok () w
 |0,t,td,ht,h=>by simp[fH] at h
 |
  n+1,t,td,ht,h=>by
  have ih:=fun t td ht h=>dH em d n t td ht h
  unfold fH at h
  rw[ht] at h
  simp only[Bool.and_eq_true] at h
  obtain⟨_,h⟩:=h
  intro x v hx
  rw[show d+(n+1)=(d+n)+1 from rfl,Instr.checkKey]
  obtain⟨ii,dd,_,hu,_,hdo,_⟩:=T.info ht
  obtain⟨ty,te,te2⟩:=td
  simp only at h x hx hdo
  cases ty with
  |
   int k=>
   have hu:=T.intOf ht rfl
   simp[underlying,hu]
  |
   bool=>
   cases dd<;>simp[a8,Ty.same] at hdo
   ·simp[underlying,hu]
   ·rename_i fs;exact absurd hdo (by generalize fs.toList=l;cases l<;>simp[aR])
  |
   str=>
   have hu:=T.strOf ht rfl
   simp[underlying,hu]
  |
   arr m u=>
   obtain⟨tde,h1,h2,h3⟩:=T.m9 ht rfl
   simp only at h h1 h2 h3
   subst h3
   obtain⟨ie,_,hi,_,Sd,_⟩:=T.info h2
   rcases hx with⟨_,cx,rfl,hx1,hx2⟩|⟨hx,_⟩
   ·simp only[Sem.run_bind,run_underlying h1,Result.andThen_ok,Std.Legacy.Range.forIn_eq_forIn_range',Std.Legacy.Range.size,Nat.sub_zero,Nat.add_one_sub_one,Nat.div_one]
    have lx:=aC.len (n:=tde.ty.size) (fun _ _ h=>Rel.len h) hx2
    rw[Array.length_toList,hx1] at lx
    have each:∀j,j<m→∃a,(part te cx (j*tde.ty.size)).run P w= .ok a w∧(Instr.checkKey em (d+n) te a).run P w= .ok () w:=by
     intro j hj
     have hr:=aC.get (fun _ _=>Rel.len) tde.ty.aX j hx2 (by omega)
     have hb:(j+1)*tde.ty.size≤m*tde.ty.size:=Nat.mul_le_mul_right _ hj
     rw[Nat.add_mul,Nat.one_mul] at hb
     obtain⟨a,p1,p2⟩:=iz T h2 hr (by omega)
     exact⟨a,p1,ih te tde h2 h _ a p2⟩
    have key:∀(is:List Nat),(∀j∈is,j<m)→(forIn is PUnit.unit fun i _=>do
     Instr.checkKey em (d+n) te (←part te cx (i*(←sizeOf te)))
     pure (ForInStep.yield PUnit.unit):Sem PUnit).run P w= .ok () w:=by
     intro is
     induction is with
     |nil=>intro _;simp
     |
      cons j is ihl=>
      intro hj
      obtain⟨a,p1,p2⟩:=each j (hj j (by simp))
      simp only[List.forIn_cons,Sem.run_bind,T.size h2,Result.andThen_ok,p1,p2,Sem.run_pure]
      exact ihl (fun y hy=>hj y (by simp[hy]))
    rw[key _ (fun j hj=>by rw[List.mem_range'] at hj;obtain⟨i,h1,h2⟩:=hj;omega)];rfl
   ·simp[AV.isAgg,Ty.isAgg] at hx
  |
   pair a b=>
   obtain⟨fs,h1,h2⟩:=T.structOf ht rfl
   simp only[Bool.and_eq_true,h1] at h
   obtain⟨e1,e2⟩:=h
   rcases hx with⟨_,cx,rfl,hx⟩|⟨hx,_⟩
   ·simp only[Sem.run_bind,run_underlying h1,Result.andThen_ok]
    rw[←Array.forIn_toList]
    have lx:=Rel.len hx
    rw[Array.length_toList] at lx
    have key:∀(fs:List Field)(ty:Ty)(off:Nat)(x:ty.den),aR G fs off ty=true→AH (fH P G n) fs ty=true→off+ty.size≤cx.size→Rel w E.S ty ((cx.toList.drop off).take ty.size) x→
     (forIn fs PUnit.unit fun f _=>if f.name≠ "_" then(do
      let v ←part f.type cx f.offset
      Instr.checkKey em (d+n) f.type v
      pure (ForInStep.yield PUnit.unit)) else pure (ForInStep.yield PUnit.unit):Sem PUnit).run P w= .ok () w:=by
     intro fs
     induction fs with
     |nil=>intro ty off x _ _ _ _;simp
     |
      cons f fs ihl=>
      intro ty off x hf he hlx hx
      cases ty with
      |
       pair a b=>
       simp only[aR,Bool.and_eq_true] at hf
       obtain⟨⟨⟨g1,g2⟩,g3⟩,g4⟩:=hf
       simp only[AH,Bool.and_eq_true,Bool.not_eq_true',beq_eq_false_iff_ne] at he
       obtain⟨⟨q1,q2⟩,q3⟩:=he
       split at g1
       ·rename_i td htd
        have:=Ty.af g1;subst this
        have g2:=Nat.eq_of_beq_eq_true g2
        simp only[Ty.size] at hlx hx
        obtain⟨v1,v2,ex,hx1,hx2⟩:=hx
        have lx1:=Rel.len hx1
        have c1:(cx.toList.drop off).take td.ty.size=v1:=by
         have:((cx.toList.drop off).take (td.ty.size+b.size)).take td.ty.size=v1:=by rw[ex,←lx1];simp
         rwa [List.take_take,Nat.min_eq_left (by omega)] at this
        have c2:(cx.toList.drop (off+td.ty.size)).take b.size=v2:=by
         have:((cx.toList.drop off).take (td.ty.size+b.size)).drop td.ty.size=v2:=by rw[ex,←lx1];simp
         rwa [List.drop_take,List.drop_drop,Nat.add_sub_cancel_left] at this
        rw[←c1] at hx1;rw[←c2] at hx2
        obtain⟨a,p1,p2⟩:=iz T htd hx1 (by omega)
        have p3:=ih f.type td htd q2 x.1 a p2
        have hrest:=ihl b (off+td.ty.size) x.2 g4 q3 (by omega) hx2
        simp only[List.forIn_cons,Sem.run_bind,if_pos q1,g2,p1,Result.andThen_ok,p3,Sem.run_pure]
        exact hrest
       ·cases g1
      |_=>simp[aR] at hf
    rw[key fs.toList (.pair a b) 0 x h2 e2 (by omega) (by rw[List.drop_zero,List.take_of_length_le (by simp[lx])];exact hx)];rfl
   ·simp[AV.isAgg,Ty.isAgg] at hx
  |_=>simp at h
end
end Go.Abs
namespace Go.Abs
section
variable{P:Program} {G:bH} (T:aW P G) {E:Env} {w:World}
def Cc(E:Env)(w:World)(vt:Ty):Option (Nat×vt.den)→Option (Nat×Value)→Prop
 |none,none=>True
 |some x,some y=>x.1=y.1∧cZ E w (.val vt x.2) y.2
 |_,_=>False
include T in
theorem lq{t:TypeId}{td:TD}(ht:G.at t=some td)(he:fH P G 40 t td.ty=true){vt:Ty}{k:td.ty.den}{v:Value}(hv:cZ E w (.val td.ty k) v):∀{l:List MapEntry}{es:List (td.ty.den×vt.den)}(i:Nat),RM E w td.ty vt l es→
 ∃r,(Instr.findAsking t v l i).run P w= .ok r w∧Cc E w vt (dV td.ty k es i) r
 |[],[],i,_=>⟨none,by simp[Instr.findAsking],trivial⟩
 |[],_::_,_,h=>h.elim
 |_::_,[],_,h=>h.elim
 |
  e::l,x::es,i,⟨h1,h2,h3⟩=>by
  have hq:(Op.equal t v e.key).run P w= .ok (aP td.ty k x.1) w:=ui T (E:=E) (w:=w) (Op.maxDepth -40) 40 t td ht he k x.1 v e.key hv h1
  cases hb:aP td.ty k x.1 with
  |true=>exact⟨some (i,e.val),by simp[Instr.findAsking,hq,hb],by simp only[dV,hb,if_true];exact⟨rfl,h2⟩⟩
  |
   false=>
   obtain⟨r,r1,r2⟩:=lq ht he hv (i+1) h3
   exact⟨r,by simp[Instr.findAsking,hq,hb,r1],by simp only[dV,hb];exact r2⟩
theorem qn{d:TypeDesc}{kt:Ty}{x y:kt.den}{v u:Value}{b:Bool}(hv:cZ E w (.val kt x) v)(hu:cZ E w (.val kt y) u)(h:Instr.sameNow d v u=some b):b=aP kt x y:=by
 cases kt with
 |
  int k=>
  obtain⟨rfl,_⟩:=RV.bM (RV.fD hv)
  obtain⟨rfl,_⟩:=RV.bM (RV.fD hu)
  cases d<;>simp[Instr.sameNow] at h
  subst h;simp[aP];rfl
 |
  bool=>
  have:=RV.cI (RV.fD hv);subst this
  have:=RV.cI (RV.fD hu);subst this
  cases d<;>simp[Instr.sameNow] at h
  subst h;simp[aP];rfl
 |
  str=>
  obtain⟨rfl,_⟩:=RV.eF (RV.fD hv)
  obtain⟨rfl,_⟩:=RV.eF (RV.fD hu)
  cases d<;>simp[Instr.sameNow] at h
  subst h
  have:∀(a b:List UInt8),((⟨a.toArray⟩:ByteArray)==⟨b.toArray⟩)=decide (a=b):=fun a b=>by
   have e1:((⟨a.toArray⟩:ByteArray)==⟨b.toArray⟩)=(a.toArray==b.toArray):=rfl
   rw[e1]
   by_cases h:a=b
   ·subst h;simp
   ·have:¬(a.toArray=b.toArray):=fun e=>h (by simpa using e)
    simp[h]
  simp only[aP]
  exact this x y
 |
  _=>
  rcases hv with⟨h1,cs,e,_⟩|⟨h1,h2⟩
  ·subst e;cases d<;>simp[Instr.sameNow] at h
  ·first
    |(simp[AV.isAgg,Ty.isAgg] at h1;done)
    |(simp only[RC,Rel] at h2;obtain⟨a,c,e,_⟩:=h2;simp at e;subst e;cases d<;>simp[Instr.sameNow] at h)
    |exact h2.elim
theorem qo{d:TypeDesc}{kt vt:Ty}{k:kt.den}{v:Value}(hv:cZ E w (.val kt k) v):∀{l:List MapEntry}{es:List (kt.den×vt.den)}(i:Nat){r:Option (Nat×Value)},RM E w kt vt l es→Instr.findNow d v l i=some r→Cc E w vt (dV kt k es i) r
 |[],[],i,r,_,h=>by simp[Instr.findNow] at h;subst h;trivial
 |[],_::_,_,_,h,_=>h.elim
 |_::_,[],_,_,h,_=>h.elim
 |
  e::l,x::es,i,r,⟨h1,h2,h3⟩,h=>by
  simp only[Instr.findNow] at h
  split at h
  ·rename_i hs
   have:=qn hv h1 hs
   cases h
   simp only[dV,←this,if_true];exact⟨rfl,h2⟩
  ·rename_i hs
   have:=qn hv h1 hs
   simp only[dV,←this,Bool.false_eq_true,if_false]
   exact qo hv (i+1) h3 h
  ·cases h
include T in
theorem qp{t:TypeId}{td:TD}(ht:G.at t=some td)(he:fH P G 40 t td.ty=true){vt:Ty}{k:td.ty.den}{v:Value}(hv:cZ E w (.val td.ty k) v){l:List MapEntry}{es:List (td.ty.den×vt.den)}(h:RM E w td.ty vt l es):
 ∃r,(Instr.findKey t v l).run P w= .ok r w∧Cc E w vt (dV td.ty k es 0) r:=by
 obtain⟨ii,dd,_,hu,_⟩:=T.info ht
 unfold Instr.findKey
 simp only[Sem.run_bind,run_underlying hu,Result.andThen_ok]
 split
 ·rename_i r hr
  exact⟨r,rfl,qo hv 0 h hr⟩
 ·exact lq T ht he hv 0 h
end
theorem sP{vt kt:Ty}{k:kt.den}:∀{es:List (kt.den×vt.den)}{i:Nat},(dV kt k es i).map (·.2)=if ql kt k es then some (fO kt vt k es) else none
 |[],_=>rfl
 |
  e::es,i=>by
  simp only[dV,ql,fO]
  by_cases hb:aP kt k e.1=true
  ·simp[hb]
  ·have Sb:aP kt k e.1=false:=by simpa using hb
   rw[if_neg hb,sP (es:=es) (i:=i+1)]
   simp only[Sb,Bool.false_or,Bool.false_eq_true,if_false]
theorem wc{α:Type}{kt:Ty}{k:kt.den}:∀{es:List (kt.den×α)}{i j:Nat}{y:α},dV kt k es i=some (j,y)→i≤j
 |[],_,_,_,h=>by cases h
 |
  e::es,i,j,y,h=>by
  simp only[dV] at h
  split at h
  ·cases h;exact Nat.le_refl _
  ·exact Nat.le_of_succ_le (wc h)
theorem RM.MJ{E:Env}{w:World}{kt vt:Ty}{k:kt.den}{y:vt.den}{v u:Value}(hk:kt.keyed=true)(hv:cZ E w (.val kt k) v)(hu:cZ E w (.val vt y) u):∀{l:List MapEntry}{es:List (kt.den×vt.den)}{i j:Nat}{z:vt.den},
 RM E w kt vt l es→dV kt k es i=some (i+j,z)→RM E w kt vt (l.modify j fun e=>{e with key:=v,val:=u}) (eo kt k y es)∧(∃e,l[j]? =some e∧cZ E w (.val kt k) e.key)
 |[],[],_,_,_,_,h=>by cases h
 |[],_::_,_,_,_,h,_=>h.elim
 |_::_,[],_,_,_,h,_=>h.elim
 |
  e::l,x::es,i,j,z,⟨h1,h2,h3⟩,h=>by
  simp only[dV] at h
  split at h
  ·rename_i hb
   have hj:j=0:=by simp at h;omega
   subst hj
   have hx:=(dG hk _ _).1 hb
   refine⟨?_,e,rfl,by rw[hx];exact h1⟩
   simp only[eo,hb,if_true]
   exact⟨hv,hu,h3⟩
  ·rename_i hb
   have:=wc h
   obtain⟨j,rfl⟩:∃m,j=m+1:=⟨j -1,by omega⟩
   rw[show i+(j+1)=(i+1)+j from by omega] at h
   obtain⟨r1,r2⟩:=RM.MJ hk hv hu h3 h
   simp only[eo,hb]
   exact⟨⟨h1,h2,r1⟩,by simpa using r2⟩
theorem RM.push{E:Env}{w:World}{kt vt:Ty}{k:kt.den}{y:vt.den}{v u:Value}{n:Nat}(hv:cZ E w (.val kt k) v)(hu:cZ E w (.val vt y) u):∀{l:List MapEntry}{es:List (kt.den×vt.den)}{i:Nat},
 RM E w kt vt l es→dV kt k es i=none→RM E w kt vt (l++[{key:=v,val:=u,born:=n}]) (eo kt k y es)
 |[],[],_,_,_=>⟨hv,hu,trivial⟩
 |[],_::_,_,h,_=>h.elim
 |_::_,[],_,h,_=>h.elim
 |
  e::l,x::es,i,⟨h1,h2,h3⟩,h=>by
  simp only[dV] at h
  split at h
  ·cases h
  ·rename_i hb
   simp only[eo,hb]
   exact⟨h1,h2,RM.push hv hu h3 h⟩
theorem we{α:Type}{kt:Ty}{k x:kt.den}{y:α}:∀{es:List (kt.den×α)},x∈(eo kt k y es).map (·.1)→x=k∨x∈es.map (·.1)
 |[],h=>by simp[eo] at h;exact Or.inl h
 |
  e::es,h=>by
  simp only[eo] at h
  split at h
  ·simp only[List.map_cons,List.mem_cons] at h ⊢
   rcases h with h|h
   ·exact Or.inl h
   ·exact Or.inr (Or.inr h)
  ·simp only[List.map_cons,List.mem_cons] at h ⊢
   rcases h with h|h
   ·exact Or.inr (Or.inl h)
   ·exact(we h).imp id Or.inr
theorem qq{α:Type}{kt:Ty}(hk:kt.keyed=true){k:kt.den}{y:α}:∀{es:List (kt.den×α)},(es.map (·.1)).Nodup→((eo kt k y es).map (·.1)).Nodup
 |[],_=>by simp[eo]
 |
  e::es,h=>by
  simp only[List.map_cons,List.nodup_cons] at h
  simp only[eo]
  split
  ·rename_i hb
   have:=(dG hk _ _).1 hb
   simp only[List.map_cons,List.nodup_cons]
   exact⟨by rw[this];exact h.1,h.2⟩
  ·rename_i hb
   simp only[List.map_cons,List.nodup_cons]
   refine⟨fun hm=>?_,qq hk h.2⟩
   rcases we hm with e1|e1
   ·exact hb ((dG hk _ _).2 e1.symm)
   ·exact h.1 e1
theorem kq{α:Type}{kt:Ty}{k:kt.den}{y:α}:∀{es:List (kt.den×α)},(eo kt k y es).length≤es.length+1
 |[]=>by simp[eo]
 |
  e::es=>by
  simp only[eo]
  split
  ·simp
  ·have:=kq (k:=k) (y:=y) (es:=es);simp;omega
def qs(G:bH)(t:TypeId):Option (TypeId×TypeId×Ty×Ty):=
 match G.at t with
 |
  some td=>match G.at td.e,G.at td.e2 with
  |some k,some v=>if Ty.same td.ty (.au .map)&&k.ty.keyed&&v.ty.pure then some (td.e,td.e2,k.ty,v.ty) else none
  |_,_=>none
 |none=>none
theorem nN{P:Program}{G:bH}(T:aW P G){t ke ve:TypeId}{kt vt:Ty}(h:qs G t=some (ke,ve,kt,vt)):P.underlying t=some (.map ke ve)∧kt.keyed=true∧vt.pure=true∧(∃k,G.at ke=some k∧k.ty=kt)∧(∃v,G.at ve=some v∧v.ty=vt):=by
 unfold qs at h
 split at h
 ·rename_i td ht
  split at h
  ·rename_i k v hk hv
   split at h
   ·rename_i hc
    cases h
    simp only[Bool.and_eq_true] at hc
    exact⟨T.mapOf ht (Ty.af hc.1.1),hc.1.2,hc.2,⟨k,hk,rfl⟩,⟨v,hv,rfl⟩⟩
   ·cases h
  ·cases h
 ·cases h
def nO(G:bH)(d:Nat)(t:TypeId):Option bw:=
 match qs G t with
 |some (_,_,kt,vt)=>some ⟨.mp d,[(d,some (.map kt vt []))],[d],[]⟩
 |none=>none
theorem uj{P:Program}{G:bH}(T:aW P G){gl:Ctx}{σ:St}{E:Env}{a:Act}{w:World}(h:cK gl σ E a w){d:Nat}{t:TypeId}{r:bw}{rs:Option Value}(hrs:∀v,rs=some v→∃k n,v= .int k n)(he:nO G d t=some r)(SK:∀b∈r.fr,σ.fresh b):
 ∃v w' E',(Instr.makeMap t rs).run P w= .ok v w'∧cK gl {σ with hp:=aA σ.hp r.hw} E' a w'∧RV E' w' r.v v∧Ext gl.md (Own σ.hp E) E w (Own (aA σ.hp r.hw) E') E' w':=by
 unfold nO at he
 split at he
 ·rename_i ke ve kt vt hm
  cases he
  obtain⟨h1,_⟩:=nN T hm
  have hf:=SK d (by simp)
  obtain⟨g1,x1⟩:=h.fresh (w':=w.alloc (.map #[] 0)) hf (g:=some w.heap.size) (sv:=undef) (t:=.unit) (k:=.map kt vt []) rfl (Tp.r rfl rfl) rfl (by simp) (fun i hi=>heap_alloc_old w _ i hi) (fun i hi=>by cases hi;exact Nat.le_refl _)
   ⟨by simp,by simp[az],w.heap.size, #[],0,by simp[Env.at],heap_alloc_new w _,trivial,by simp,by simp⟩
  refine⟨.map (some w.heap.size),_,_,?_,g1,RV.fD (Or.inr ⟨rfl,w.heap.size,by simp[Env.at],rfl⟩),x1⟩
  cases rs with
  |none=>simp[Instr.makeMap]
  |
   some v=>
   obtain⟨k,n,e⟩:=hrs v rfl
   subst e
   simp[Instr.makeMap,run_underlying h1,asInt,asIntOf]
 ·cases he
def wg(hb:Nat→Option aj)(kt vt:Ty):AV→Option (List (kt.den×vt.den))
 | .mh=>some []
 |
  .mp b=>match hb b with
  |some (.map k v es)=>if h:Ty.same k kt=true∧Ty.same v vt=true then some (Ty.af h.1▸Ty.af h.2▸es) else none
  |_=>none
 |_=>none
def uk(ok:Bool)(kt vt:Ty)(k:kt.den)(es:List (kt.den×vt.den)):AV:=
 match ok with
 |true=>.bU (.cons (.val vt (fO kt vt k es)) (.cons (.val .bool (ql kt k es)) .nil))
 |false=>.val vt (fO kt vt k es)
def jb(P:Program)(G:bH)(hb:Nat→Option aj)(t:TypeId)(x i:AV)(ok:Bool):Option (AV×List Prop):=
 match qs G t with
 |
  some (ke,_,kt,vt)=>match wg hb kt vt x,i.bc kt with
  |some es,some k=>if i.plain then some (uk ok kt vt k es,[fH P G 40 ke kt=true]) else none
  |_,_=>none
 |none=>none
theorem Cd{gl:Ctx}{E:Env}{w:World}{hp:List (Option aj)}(hw:HW gl E w hp){hb:Nat→Option aj}(hB:HB hb hp){kt vt:Ty}{x:AV}{v:Value}{es:List (kt.den×vt.den)}(hx:RV E w x v)(h:wg hb kt vt x=some es):
 (v= .map none∧es= [])∨∃g en clock,v= .map (some g)∧w.heap[g]? =some (.map en clock)∧RM E w kt vt en.toList es:=by
 unfold wg at h
 split at h
 ·cases h
  have:=RV.atom rfl hx
  simp[RC] at this
  exact Or.inl ⟨this,rfl⟩
 ·split at h
  ·rename_i k v' SD hk
   split at h
   ·rename_i hc
    obtain⟨c1,c2⟩:=hc
    have e1:=Ty.af c1;subst e1
    have e2:=Ty.af c2;subst e2
    cases h
    obtain⟨g,hg,e⟩:=RV.atom rfl hx
    simp at e
    obtain⟨_,_,g',en,clock,r1,r2,r3,_⟩:=hw.bh _ _ (hB _ _ hk)
    rw[hg] at r1;cases r1
    exact Or.inr ⟨g,en,clock,e,r2,r3⟩
   ·cases h
  ·cases h
 ·cases h
theorem kr{P:Program}{G:bH}(T:aW P G){gl:Ctx}{E:Env}{w:World}{hp:List (Option aj)}(hw:HW gl E w hp){hb:Nat→Option aj}(hB:HB hb hp){t:TypeId}{x i:AV}{ok:Bool}{vx vi:Value}(hx:RV E w x vx)(hi:RV E w i vi){r:AV}{vc:List Prop}(h:jb P G hb t x i ok=some (r,vc))(Sm:dT vc):
 ∃v,(Instr.lookup t vx vi ok).run P w= .ok v w∧RV E w r v:=by
 unfold jb at h
 split at h
 ·rename_i ke ve kt vt hm
  split at h
  ·rename_i es k hes hk
   split at h
   ·rename_i hpl
    cases h
    obtain⟨h1,h2,h3,⟨kd,h4,h5⟩,⟨vd,h6,h7⟩⟩:=nN T hm
    subst h5;subst h7
    obtain⟨he,_⟩:=Sm
    have hkv:cZ E w (.val kd.ty k) vi:=cZ.bc hk (RV.mq hpl hi)
    have hck:=dH T (E:=E) (w:=w)
    have hz:∃z,(zeroValue ve).run P w= .ok z w∧cZ E w (.val vd.ty vd.ty.aX) z:=by
     obtain⟨z,z1,z2,z3⟩:=T.zero h6 w
     have hr:=(fB (E:=E) (w:=w) z2).2 h3
     refine⟨z,z1,?_⟩
     cases z with
     |agg cs=>exact Or.inl ⟨by simp only[DE] at z3;exact z3.symm,cs,rfl,hr⟩
     |_=>exact Or.inr ⟨by simp only[DE] at z3;exact z3.symm,by simp[Value.cells] at hr;exact hr⟩
    obtain⟨z,z1,z2⟩:=hz
    have fin:∀(en:Array MapEntry),RM E w kd.ty vd.ty en.toList es→∃r,(Instr.checkKey en.isEmpty 10000 ke vi).run P w= .ok () w∧(Instr.findKey ke vi en.toList).run P w= .ok r w∧
     ((r=none∧RV E w (uk ok kd.ty vd.ty k es) (if ok then Value.tuple #[z,.bool false] else z))∨(∃q,r=some q∧RV E w (uk ok kd.ty vd.ty k es) (if ok then Value.tuple #[q.2,.bool true] else q.2))):=by
     intro en hen
     obtain⟨r,r1,r2⟩:=qp T h4 he hkv hen
     have hc:=hck en.isEmpty 9960 40 ke kd h4 he k vi hkv
     have hmg:=sP (vt:=vd.ty) (k:=k) (es:=es) (i:=0)
     have nh:ql kd.ty k es=false→fO kd.ty vd.ty k es=vd.ty.aX:=by
      generalize es=es
      induction es with
      |nil=>intro _;rfl
      |
       cons e es ih=>
       intro hh
       simp only[ql,Bool.or_eq_false_iff] at hh
       simp only[fO,hh.1,Bool.false_eq_true,if_false]
       exact ih hh.2
     have done:∀(v:Value)(b:Bool),cZ E w (.val vd.ty (fO kd.ty vd.ty k es)) v→b=ql kd.ty k es→RV E w (uk ok kd.ty vd.ty k es) (if ok then Value.tuple #[v,.bool b] else v):=by
      intro v b k1 k2
      subst k2
      cases ok with
      |true=>exact⟨_,rfl,k1,Or.inr ⟨rfl,rfl⟩,rfl⟩
      |false=>exact RV.fD k1
     revert r2 hmg
     generalize dV kd.ty k es 0=m
     intro r2 hmg
     cases m with
     |
      none=>
      cases r with
      |some _=>exact r2.elim
      |
       none=>
       have hnh:ql kd.ty k es=false:=by
        cases hh:ql kd.ty k es with
        |false=>rfl
        |true=>rw[hh] at hmg;simp at hmg
       exact⟨none,hc,r1,Or.inl ⟨rfl,done z false (by rw[nh hnh];exact z2) hnh.symm⟩⟩
     |
      some p=>
      cases r with
      |none=>exact r2.elim
      |
       some q=>
       have hnh:ql kd.ty k es=true:=by
        cases hh:ql kd.ty k es with
        |true=>rfl
        |false=>rw[hh] at hmg;simp at hmg
       rw[hnh] at hmg
       simp at hmg
       exact⟨some q,hc,r1,Or.inr ⟨q,rfl,done q.2 true (by rw[←hmg];exact r2.2) hnh.symm⟩⟩
    rcases Cd hw hB hx hes with⟨e1,e2⟩|⟨g,en,clock,e1,e2,e3⟩
    ·subst e1;subst e2
     obtain⟨r,k1,k2,k3⟩:=fin #[] trivial
     rcases k3 with⟨e,k3⟩|⟨q,e,k3⟩
     ·subst e
      exact⟨_,by simp only[Instr.lookup,Sem.run_bind,run_underlying h1,Result.andThen_ok,Sem.run_pure,k1,k2,z1],k3⟩
     ·subst e
      exact⟨_,by simp only[Instr.lookup,Sem.run_bind,run_underlying h1,Result.andThen_ok,Sem.run_pure,k1,k2],k3⟩
    ·subst e1
     obtain⟨r,k1,k2,k3⟩:=fin en e3
     have SU:(getObj g).run P w= .ok (.map en clock) w:=by simp[getObj,Sem.run,e2]
     rcases k3 with⟨e,k3⟩|⟨q,e,k3⟩
     ·subst e
      exact⟨_,by simp only[Instr.lookup,Sem.run_bind,run_underlying h1,Result.andThen_ok,Sem.run_pure,SU,k1,k2,z1],k3⟩
     ·subst e
      exact⟨_,by simp only[Instr.lookup,Sem.run_bind,run_underlying h1,Result.andThen_ok,Sem.run_pure,SU,k1,k2],k3⟩
   ·cases h
  ·cases h
 ·cases h
def iE(P:Program)(G:bH)(hb:Nat→Option aj)(t:TypeId)(x k v:AV):Option bw:=
 match qs G t,x with
 |
  some (ke,_,kt,vt),.mp b=>match wg hb kt vt (.mp b),k.bc kt,v.bc vt with
  |some es,some k',some v'=>if k.plain&&v.plain then some ⟨.bot,[(b,some (.map kt vt (eo kt k' v' es)))],[],[fH P G 40 ke kt=true,es.length+1≤az]⟩ else none
  |_,_,_=>none
 |_,_=>none
theorem ku{P:Program}{G:bH}(T:aW P G){gl:Ctx}{σ:St}{E:Env}{a:Act}{w:World}(h:cK gl σ E a w){hb:Nat→Option aj}(hB:HB hb σ.hp){t:TypeId}{x k v:AV}{vx vk vv:Value}(hx:RV E w x vx)(hk:RV E w k vk)(hv:RV E w v vv){r:bw}(he:iE P G hb t x k v=some r)(Sm:dT r.vc):
 ∃w',(Instr.mapUpdate t vx vk vv).run P w= .ok () w'∧cK gl {σ with hp:=aA σ.hp r.hw} E a w'∧RV E w' r.v undef∧Ext gl.md (Own σ.hp E) E w (Own (aA σ.hp r.hw) E) E w':=by
 unfold iE at he
 split at he
 ·rename_i ke ve kt vt b hm
  split at he
  ·rename_i es k' v' hes hk' hv'
   split at he
   ·rename_i hpl
    cases he
    simp only[Bool.and_eq_true] at hpl
    obtain⟨he,hlen,_⟩:=Sm
    obtain⟨h1,h2,h3,⟨kd,h4,h5⟩,⟨vd,h6,h7⟩⟩:=nN T hm
    subst h5;subst h7
    have hkv:cZ E w (.val kd.ty k') vk:=cZ.bc hk' (RV.mq hpl.1 hk)
    have hvv:cZ E w (.val vd.ty v') vv:=cZ.bc hv' (RV.mq hpl.2 hv)
    have hbk:∃es0,hb b=some (.map kd.ty vd.ty es0)∧es0=es:=by
     simp only[wg] at hes
     split at hes
     ·rename_i k0 v0 es0 hb0
      split at hes
      ·rename_i hc
       obtain⟨c1,c2⟩:=hc
       have e1:=Ty.af c1;have e2:=Ty.af c2
       cases e1;cases e2
       cases hes
       exact⟨_,hb0,rfl⟩
      ·cases hes
     ·cases hes
    obtain⟨es0,hb0,e0⟩:=hbk
    subst e0
    have hbk:=hB b _ hb0
    obtain⟨q1,q2,g,en,clock,q3,q4,q5,q6,q7⟩:=h.hw.bh b _ hbk
    obtain⟨g',hg',e⟩:=RV.atom rfl hx
    simp at e;subst e
    rw[q3] at hg';cases hg'
    obtain⟨r,r1,r2⟩:=qp T h4 he hkv q5
    have hc:=dH T (E:=E) (w:=w) false 9960 40 ke kd h4 he k' vk hkv
    have SU:(getObj g).run P w= .ok (.map en clock) w:=by simp[getObj,Sem.run,q4]
    have Sg:g<w.heap.size:=(Array.getElem?_eq_some_iff.1 q4).1
    have key:∃en' clock',(Instr.mapUpdate t (.map (some g)) vk vv).run P w= .ok () (w.putObj g (.map en' clock'))∧RM E w kd.ty vd.ty en'.toList (eo kd.ty k' v' es0)∧(∀x∈en'.toList,x.born<clock')∧(en'.toList.map (·.born)).Nodup:=by
     have aA:∀o,(setObj g o).run P w= .ok () (w.putObj g o):=fun o=>by simp[setObj,Sem.run,q4,World.putObj]
     cases hf:dV kd.ty k' es0 0 with
     |
      none=>
      rw[hf] at r2
      cases r with
      |some _=>exact r2.elim
      |
       none=>
       refine⟨en.push {key:=vk,val:=vv,born:=clock},clock+1,?_,?_,?_,?_⟩
       ·simp only[Instr.mapUpdate,Sem.run_bind,run_underlying h1,Result.andThen_ok,SU,hc,r1,aA]
       ·rw[Array.toList_push];exact RM.push hkv hvv q5 hf
       ·intro x hx
        rw[Array.toList_push] at hx
        rcases List.mem_append.1 hx with hx|hx
        ·exact Nat.lt_succ_of_lt (q6 x hx)
        ·simp at hx;subst hx;exact Nat.lt_succ_self _
       ·rw[Array.toList_push,List.map_append]
        refine List.nodup_append.2 ⟨q7,by simp,?_⟩
        intro x hx y hy
        simp at hy
        obtain⟨z,hz,ez⟩:=List.mem_map.1 hx
        have:=q6 z hz
        omega
     |
      some p=>
      obtain⟨i,y⟩:=p
      rw[hf] at r2
      cases r with
      |none=>exact r2.elim
      |
       some q=>
       obtain⟨i',u⟩:=q
       obtain⟨e1,e2⟩:=r2
       simp only at e1 e2
       subst e1
       obtain⟨t1,e0,t2,t3⟩:=RM.MJ (i:=0) (j:=i) h2 hkv hvv q5 (by rw[Nat.zero_add];exact hf)
       obtain⟨f1,f2⟩:=cZ.fn h2 t3 hkv
       have hold:((en[i]?).map (·.key)).getD vk=e0.key:=by
        have:en[i]? =some e0:=by simpa using t2
        rw[this];rfl
       have hstay:(Instr.keyThatStays (((en[i]?).map (·.key)).getD vk) vk).run P w= .ok vk w:=by
        rw[hold,Instr.keyThatStays,←f1,if_pos f2];simp
       refine⟨en.modify i fun e=>{e with key:=vk,val:=vv},clock,?_,?_,?_,?_⟩
       ·simp only[Instr.mapUpdate,Sem.run_bind,run_underlying h1,Result.andThen_ok,SU,hc,r1,hstay,aA]
       ·rw[Array.toList_modify];exact t1
       ·intro x hx
        rw[Array.toList_modify] at hx
        obtain⟨j,hj⟩:=List.mem_iff_getElem?.1 hx
        rw[List.getElem?_modify] at hj
        cases hj0:en.toList[j]? with
        |none=>rw[hj0] at hj;simp at hj
        |
         some z=>
         rw[hj0] at hj
         have hz:=q6 z (List.mem_of_getElem? hj0)
         simp at hj
         subst hj
         split<;>exact hz
       ·have:(en.modify i fun e=>{e with key:=vk,val:=vv}).toList.map (·.born)=en.toList.map (·.born):=by
         rw[Array.toList_modify]
         apply List.ext_getElem?
         intro j
         simp only[List.getElem?_map,List.getElem?_modify]
         cases en.toList[j]? with
         |none=>rfl
         |some z=>simp;split<;>rfl
        rw[this];exact q7
    obtain⟨en',clock',k1,k2,k3,k4⟩:=key
    have kp:bm E w E (w.putObj g (.map en' clock')):=⟨fun i hi=>World.putObj_heap_other (fun e=>h.hw.fo b _ g hbk q3 (e▸hi)),fun _ h=>h⟩
    have hrb:RB E (w.putObj g (.map en' clock')) b (.map kd.ty vd.ty (eo kd.ty k' v' es0)):=
     ⟨qq h2 q1,Nat.le_trans kq hlen,g,en',clock',q3,World.putObj_heap_same Sg,RM.mono kp k2,k3,k4⟩
    have hw2:=h.hw.write hbk (by simp) (fun i hi=>World.putObj_heap_other (fun e=>hi (by rw[e];exact q3))) hrb
    refine⟨_,k1,h.carry kp (fun _ _=>⟨rfl,rfl,rfl⟩) hw2,trivial,⟨rfl,Tp.r rfl rfl,rfl,by simp,?_,fun _ h=>h,fun _ h=>Or.inl h,fun i hi=>Or.inl (Own.yI hbk hi),fun _ _=>⟨rfl,rfl,rfl⟩⟩⟩
    intro i hi ho
    exact World.putObj_heap_other (fun e=>ho ⟨b,_,hbk,by rw[e];exact q3⟩)
   ·cases he
  ·cases he
 ·cases he
end Go.Abs
namespace Go.Abs
def gi:List AV→AV
 |[]=>.nil
 |x::l=>.cons x (gi l)
def qt(fn:Fn)(fs cs:List AV):Option AV:=
 if(gi fs).atoms&&(gi cs).atoms then some (.func fn (gi fs) (gi cs)) else none
theorem lS{E:Env}{w:World}:∀{l:List Operand}{ev:Operand→AV}{f:Operand→Value},(∀x∈l,RV E w (ev x) (f x))→(gi (l.map ev)).atoms=true→RC E w (gi (l.map ev)) (l.map f)
 |[],_,_,_,_=>rfl
 |
  x::l,ev,f,h,ha=>by
  simp only[List.map_cons,gi,AV.atoms,Bool.and_eq_true] at ha ⊢
  exact⟨[f x],l.map f,rfl,RV.atom ha.1 (h x (List.mem_cons_self ..)),lS (fun y hy=>h y (List.mem_cons_of_mem _ hy)) ha.2⟩
def kN(ev:Operand→AV)(ps:Array (Nat×Operand)):List (Nat×AV):=ps.toList.map fun x=>(x.1,ev x.2)
theorem jE{E:Env}{w:World}{ev:Operand→AV}{f:Operand→Value}:∀{ps:List (Nat×Operand)},(∀x∈ps,RV E w (ev x.2) (f x.2))→RP E w (ps.map fun x=>(x.1,ev x.2)) (ps.map fun x=>(x.1,f x.2))
 |[],_=>trivial
 |x::_l,h=>⟨rfl,h x (List.mem_cons_self ..),jE (fun y hy=>h y (List.mem_cons_of_mem _ hy))⟩
def zg(P:Program)(G:bH)(d:Nat)(op:Op)(ev:Operand→AV)(hb:Nat→Option aj):Option bw:=
 match op with
 | .build t ps=>(kW G t (kN ev ps)).map .one
 | .buildSlice t n ps=>(dR G d t n (kN ev ps)).map fun y=>⟨y.1,[(d,some y.2)],[d],[]⟩
 | .makeFunc fn fs cs=>(qt fn (fs.toList.map ev) (cs.toList.map ev)).map .one
 | .slice t x lo hi mx=>(kM G hb t (ev x) (lo.map ev) (hi.map ev) (mx.map ev)).map .Kl
 | .makeSlice t l c=>ko G d t (ev l) (ev c)
 | .convert s t x=>(uf G hb s t (ev x)).map .one
 | .binOp o t x y _=>(Jm P G o t (ev x) (ev y)).map .Kl
 | .call {callee:=.builtin .append,args:=⟨[x,y]⟩,argTypes:=⟨[t,t2]⟩}=>i9 G hb d t t2 (ev x) (ev y)
 | .call {callee:=.builtin .copy,args:=⟨[x,y]⟩,argTypes:=⟨[t,_]⟩}=>nL G hb t (ev x) (ev y)
 | .call {callee:=.builtin .clear,args:=⟨[x]⟩,argTypes:=⟨[t]⟩}=>ug G hb t (ev x)
 | .makeMap t none=>nO G d t
 | .lookup t x i ok=>(jb P G hb t (ev x) (ev i) ok).map .Kl
 | .mapUpdate t x k v=>iE P G hb t (ev x) (ev k) (ev v)
 | .insert t x k v=>iE P G hb t (ev x) (ev k) (ev v)
 |_=>none
theorem um{E:Env}{w:World}{ev:Operand→AV}{f:Operand→Value}{o:Option Operand}(h:∀x,o=some x→RV E w (ev x) (f x)):RO E w (o.map ev) (o.map f):=by
 cases o with
 |none=>trivial
 |some x=>exact h x rfl
theorem Ce{P:Program}{G:bH}(T:aW P G){gl:Ctx}{σ:St}{E:Env}{a:Act}{w:World}(h:cK gl σ E a w){o:Oper}{d:Nat}{ev:Operand→AV}{hb:Nat→Option aj}(hB:HB hb σ.hp){r:bw}
 (Sj:∀x∈o.op.operands.toList,RV E w (ev x) (a.eval x)) (he:zg P G d o.op ev hb=some r) (Sm:dT r.vc) (SK:∀b∈r.fr,σ.fresh b):bu P gl σ E a w o r:=by
 unfold zg at he
 split at he
 ·rename_i t ps R5
  simp only[Option.map_eq_some_iff] at he
  obtain⟨u,hu,rfl⟩:=he
  have hp:RP E w (kN ev ps) (ps.map fun(i,x)=>(i,a.eval x)).toList:=by
   rw[Array.toList_map]
   refine jE (fun x hx=>Sj x.2 ?_)
   simp only[R5,Op.operands,List.mem_map]
   exact⟨x,hx,rfl⟩
  obtain⟨v,h1,h2⟩:=run_build T hp hu
  exact bu.same h (v:=v) (by simp[execOp,R5,h1]) h2
 ·rename_i t n ps R5
  simp only[Option.map_eq_some_iff] at he
  obtain⟨⟨u,k⟩,hu,rfl⟩:=he
  have hp:RP E w (kN ev ps) (ps.map fun(i,x)=>(i,a.eval x)).toList:=by
   rw[Array.toList_map]
   refine jE (fun x hx=>Sj x.2 ?_)
   simp only[R5,Op.operands,List.mem_map]
   exact⟨x,hx,rfl⟩
  obtain⟨v,w',E',h1,h2,h3,h4⟩:=ph T h (SK d (by simp)) hp hu
  exact⟨_,v,w',E',by simp[execOp,R5,h1],Or.inl rfl,h2,h3,h4⟩
 ·rename_i fn fs cs R5
  simp only[Option.map_eq_some_iff] at he
  obtain⟨u,hu,rfl⟩:=he
  unfold qt at hu
  split at hu
  ·rename_i hc
   cases hu
   simp only[Bool.and_eq_true] at hc
   have h1:RC E w (gi (fs.toList.map ev)) (fs.toList.map a.eval):=lS (fun x hx=>Sj x (by simp only[R5,Op.operands,Array.toList_append,List.mem_append];exact Or.inl hx)) hc.1
   have h2:RC E w (gi (cs.toList.map ev)) (cs.toList.map a.eval):=lS (fun x hx=>Sj x (by simp only[R5,Op.operands,Array.toList_append,List.mem_append];exact Or.inr hx)) hc.2
   exact bu.same h (v:=.func fn (fs.map a.eval) (cs.map a.eval)) (by simp[execOp,R5,Instr.makeFunc]) (RV.fD (Or.inr ⟨rfl,fs.map a.eval,cs.map a.eval,rfl,by rw[Array.toList_map];exact h1,by rw[Array.toList_map];exact h2,hc.1,hc.2⟩))
  ·cases hu
 ·rename_i t x lo hi mx R5
  simp only[Option.map_eq_some_iff] at he
  obtain⟨⟨u,vc⟩,hu,rfl⟩:=he
  have mem:∀y,y=x∨lo=some y∨hi=some y∨mx=some y→RV E w (ev y) (a.eval y):=by
   intro y hy
   refine Sj y ?_
   simp only[R5,Op.operands]
   rcases hy with rfl|rfl|rfl|rfl<;>simp
  obtain⟨v,h1,h2⟩:=lR T h.hw hB (mem x (Or.inl rfl)) (um (f:=a.eval) fun y hy=>mem y (Or.inr (Or.inl hy))) (um (f:=a.eval) fun y hy=>mem y (Or.inr (Or.inr (Or.inl hy)))) (um (f:=a.eval) fun y hy=>mem y (Or.inr (Or.inr (Or.inr hy)))) hu Sm
  exact bu.same h (v:=v) (by simp[execOp,R5,h1]) h2
 ·rename_i t l c R5
  obtain⟨v,w',E',h1,h2,h3,h4⟩:=qh T h (Sj l (by simp[R5,Op.operands])) (Sj c (by simp[R5,Op.operands])) he Sm SK
  exact⟨_,v,w',E',by simp[execOp,R5,h1],Or.inl rfl,h2,h3,h4⟩
 ·rename_i s t x R5
  simp only[Option.map_eq_some_iff] at he
  obtain⟨u,hu,rfl⟩:=he
  obtain⟨v,w',E',h1,h2,h3,h4⟩:=xZ T h hB (Sj x (by simp[R5,Op.operands])) hu
  exact⟨_,v,w',E',by simp[execOp,R5,h1],Or.inl rfl,h2,h3,h4⟩
 ·rename_i bo t x y t2 R5
  simp only[Option.map_eq_some_iff] at he
  obtain⟨⟨u,vc⟩,hu,rfl⟩:=he
  obtain⟨h0,v,h1,h2⟩:=Er T (ox:=x) (oy:=y) (Sj x (by simp[R5,Op.operands])) (Sj y (by simp[R5,Op.operands])) hu Sm
  exact bu.same h (v:=v) (by simp[execOp,R5,h0,h1]) h2
 ·rename_i x y t t2 R5
  obtain⟨v,w',E',h1,h2,h3,h4⟩:=kn T (ty:=o.type) h hB (Sj x (by simp[R5,Op.operands,Call.operands])) (Sj y (by simp[R5,Op.operands,Call.operands])) he Sm SK
  refine⟨_,v,w',E',?_,Or.inl rfl,h2,h3,h4⟩
  simp[execOp,R5,resolve,invoke,builtin,h1]
 ·rename_i x y t t2 R5
  obtain⟨v,w',h1,h2,h3,h4⟩:=nM T (t2:=t2) (ty:=o.type) h hB (Sj x (by simp[R5,Op.operands,Call.operands])) (Sj y (by simp[R5,Op.operands,Call.operands])) he
  refine⟨_,v,w',E,?_,Or.inl rfl,h2,h3,h4⟩
  simp[execOp,R5,resolve,invoke,builtin,h1]
 ·rename_i x t R5
  obtain⟨v,w',h1,h2,h3,h4⟩:=ya T (ty:=o.type) h hB (Sj x (by simp[R5,Op.operands,Call.operands])) he
  refine⟨_,v,w',E,?_,Or.inl rfl,h2,h3,h4⟩
  simp[execOp,R5,resolve,invoke,builtin,h1]
 ·rename_i t R5
  obtain⟨v,w',E',h1,h2,h3,h4⟩:=uj T (P:=P) (rs:=none) h (fun v hv=>by cases hv) he SK
  exact⟨_,v,w',E',by simp[execOp,R5,h1],Or.inl rfl,h2,h3,h4⟩
 ·rename_i t x i ok R5
  simp only[Option.map_eq_some_iff] at he
  obtain⟨⟨u,vc⟩,hu,rfl⟩:=he
  obtain⟨v,h1,h2⟩:=kr T h.hw hB (Sj x (by simp[R5,Op.operands])) (Sj i (by simp[R5,Op.operands])) hu Sm
  exact bu.same h (v:=v) (by simp[execOp,R5,h1]) h2
 ·rename_i t x k v R5
  obtain⟨w',h1,h2,h4,h3⟩:=ku T h hB (Sj x (by simp[R5,Op.operands])) (Sj k (by simp[R5,Op.operands])) (Sj v (by simp[R5,Op.operands])) he Sm
  exact⟨_,undef,w',E,by simp[execOp,R5,h1],Or.inr ⟨rfl,rfl⟩,h2,h4,h3⟩
 ·rename_i t x k v R5
  obtain⟨w',h1,h2,h4,h3⟩:=ku T h hB (Sj x (by simp[R5,Op.operands])) (Sj k (by simp[R5,Op.operands])) (Sj v (by simp[R5,Op.operands])) he Sm
  exact⟨_,undef,w',E,by simp[execOp,R5,h1],Or.inr ⟨rfl,rfl⟩,h2,h4,h3⟩
 ·cases he
end Go.Abs
namespace Go.Abs
def py:List (Nat×Nat)→Nat→Option Nat
 |[],_=>none
 |(a,b)::l,x=>if Nat.beq a x then some b else py l x
def AV.dB(m:List (Nat×Nat)):AV→Option AV
 | .own b=>(py m b).map .own
 | .mo b lo len=>(py m b).map fun c=>.mo c lo len
 | .ka b p lo len=>(py m b).map fun c=>.ka c p lo len
 | .ptr b p=>(py m b).map fun c=>.ptr c p
 | .mp b=>(py m b).map .mp
 |
  .func fn fs cs=>match fs.dB m,cs.dB m with
  |some f,some c=>if f.atoms&&c.atoms then some (.func fn f c) else none
  |_,_=>none
 |
  .iface t v=>match v.dB m with
  |some u=>if u.isAgg==v.isAgg then some (.iface t u) else none
  |none=>none
 |
  .cons a b=>match a.dB m,b.dB m with
  |some x,some y=>some (.cons x y)
  |_,_=>none
 | .bU l=>(l.dB m).map .bU
 | .opt _ _=>none
 |x=>some x
structure Rn(m:List (Nat×Nat))(E E':Env):Prop where
 at':∀b c,py m b=some c→E'.g c=E.g b∧E'.sv c=E.sv b∧E'.bt c=E.bt b
 S:∀g,E.S g→E'.S g
theorem AV.Et{m:List (Nat×Nat)}{x y:AV}(h:x.dB m=some y):y.isAgg=x.isAgg:=by
 cases x with
 |own b=>simp only[AV.dB,Option.map_eq_some_iff] at h;obtain⟨c,_,rfl⟩:=h;rfl
 |mo b lo len=>simp only[AV.dB,Option.map_eq_some_iff] at h;obtain⟨c,_,rfl⟩:=h;rfl
 |ka b p lo len=>simp only[AV.dB,Option.map_eq_some_iff] at h;obtain⟨c,_,rfl⟩:=h;rfl
 |ptr b p=>simp only[AV.dB,Option.map_eq_some_iff] at h;obtain⟨c,_,rfl⟩:=h;rfl
 |mp b=>simp only[AV.dB,Option.map_eq_some_iff] at h;obtain⟨c,_,rfl⟩:=h;rfl
 |
  func fn fs cs=>
  simp only[AV.dB] at h
  split at h
  ·split at h
   ·cases h;rfl
   ·cases h
  ·cases h
 |
  iface t v=>
  simp only[AV.dB] at h
  split at h
  ·split at h
   ·cases h;rfl
   ·cases h
  ·cases h
 |
  cons a b=>
  simp only[AV.dB] at h
  split at h
  ·cases h;rfl
  ·cases h
 |bU l=>simp only[AV.dB,Option.map_eq_some_iff] at h;obtain⟨c,_,rfl⟩:=h;rfl
 |opt c v=>simp[AV.dB] at h
 |_=>simp only[AV.dB,Option.some.injEq] at h;subst h;rfl
theorem RC.dB{m:List (Nat×Nat)}{E E':Env}{w:World}(r:Rn m E E'):∀{x y:AV}{vs:List Value},x.dB m=some y→RC E w x vs→RC E' w y vs:=by
 intro x
 have kp:bm E w E' w:=⟨fun _ _=>rfl,r.S⟩
 induction x with
 |
  own b=>
  intro y vs h hr
  simp only[AV.dB,Option.map_eq_some_iff] at h
  obtain⟨c,hc,rfl⟩:=h
  obtain⟨_,e2,_⟩:=r.at' b c hc
  simp only[RC] at hr ⊢
  rw[e2];exact hr
 |
  mo b lo len=>
  intro y vs h hr
  simp only[AV.dB,Option.map_eq_some_iff] at h
  obtain⟨c,hc,rfl⟩:=h
  obtain⟨_,e2,e3⟩:=r.at' b c hc
  obtain⟨a,c',n,t,hr⟩:=hr
  exact⟨a,c',n,t,by rw[e3,e2];exact hr⟩
 |
  ka b p lo len=>
  intro y vs h hr
  simp only[AV.dB,Option.map_eq_some_iff] at h
  obtain⟨c,hc,rfl⟩:=h
  obtain⟨e1,e2,e3⟩:=r.at' b c hc
  obtain⟨n,t,hr⟩:=hr
  exact⟨n,t,by rw[e3,e1];exact hr⟩
 |
  ptr b p=>
  intro y vs h hr
  simp only[AV.dB,Option.map_eq_some_iff] at h
  obtain⟨c,hc,rfl⟩:=h
  obtain⟨e1,e2,e3⟩:=r.at' b c hc
  obtain⟨g,hr⟩:=hr
  exact⟨g,by rw[e1,e3];exact hr⟩
 |
  mp b=>
  intro y vs h hr
  simp only[AV.dB,Option.map_eq_some_iff] at h
  obtain⟨c,hc,rfl⟩:=h
  obtain⟨e1,e2,e3⟩:=r.at' b c hc
  obtain⟨g,hr⟩:=hr
  exact⟨g,by rw[e1];exact hr⟩
 |
  func fn fs cs Sn Sk=>
  intro y vs h hr
  simp only[AV.dB] at h
  split at h
  ·rename_i f c hf hc
   split at h
   ·rename_i ha
    cases h
    simp only[Bool.and_eq_true] at ha
    obtain⟨f',c',e,r1,r2,r3,r4⟩:=hr
    exact⟨f',c',e,Sn hf r1,Sk hc r2,ha.1,ha.2⟩
   ·cases h
  ·cases h
 |
  iface t v ih=>
  intro y vs h hr
  simp only[AV.dB] at h
  split at h
  ·rename_i u hu
   split at h
   ·rename_i ha
    cases h
    have ha:u.isAgg=v.isAgg:=by simpa using ha
    obtain⟨x,e,hr⟩:=hr
    refine⟨x,e,?_⟩
    rcases hr with⟨h1,cs,h2,h3⟩|⟨h1,h2⟩
    ·exact Or.inl ⟨by rw[ha];exact h1,cs,h2,ih hu h3⟩
    ·exact Or.inr ⟨by rw[ha];exact h1,ih hu h2⟩
   ·cases h
  ·cases h
 |
  cons a b Sn Sk=>
  intro y vs h hr
  simp only[AV.dB] at h
  split at h
  ·rename_i x' y' h1 h2
   cases h
   obtain⟨v1,v2,e,r1,r2⟩:=hr
   exact⟨v1,v2,e,Sn h1 r1,Sk h2 r2⟩
  ·cases h
 |bU l=>intro y vs h hr;exact hr.elim
 |opt c v=>intro y vs h hr;exact hr.elim
 |val t x=>intro y vs h hr;simp only[AV.dB,Option.some.injEq] at h;subst h;exact Rel.mono kp.w kp.S hr
 |ec t x=>intro y vs h hr;simp only[AV.dB,Option.some.injEq] at h;subst h;exact RC.mono kp (fun b hb=>by cases hb) (a:=.ec t x) hr
 |_=>intro y vs h hr;simp only[AV.dB,Option.some.injEq] at h;subst h;exact hr
theorem cZ.dB{m:List (Nat×Nat)}{E E':Env}{w:World}(r:Rn m E E'){x y:AV}{v:Value}(h:x.dB m=some y)(hr:cZ E w x v):cZ E' w y v:=by
 have ha:=AV.Et h
 rcases hr with⟨h1,cs,e,h2⟩|⟨h1,h2⟩
 ·exact Or.inl ⟨by rw[ha];exact h1,cs,e,RC.dB r h h2⟩
 ·exact Or.inr ⟨by rw[ha];exact h1,RC.dB r h h2⟩
theorem RT.dB{m:List (Nat×Nat)}{E E':Env}{w:World}(r:Rn m E E'):∀{x y:AV}{vs:List Value},x.dB m=some y→RT E w x vs→RT E' w y vs:=by
 intro x
 induction x with
 |
  cons a b Sn Sk=>
  intro y vs h hr
  simp only[AV.dB] at h
  split at h
  ·rename_i x' y' h1 h2
   cases h
   cases vs with
   |nil=>exact hr.elim
   |cons v vs=>exact⟨cZ.dB r h1 hr.1,Sk h2 hr.2⟩
  ·cases h
 |nil=>intro y vs h hr;simp only[AV.dB,Option.some.injEq] at h;subst h;exact hr
 |_=>intro y vs h hr;exact hr.elim
theorem RV.dB{m:List (Nat×Nat)}{E E':Env}{w:World}(r:Rn m E E'){x y:AV}{v:Value}(h:x.dB m=some y)(hr:RV E w x v):RV E' w y v:=by
 cases x with
 |bot=>simp only[AV.dB,Option.some.injEq] at h;subst h;trivial
 |
  bU l=>
  simp only[AV.dB,Option.map_eq_some_iff] at h
  obtain⟨l',h,rfl⟩:=h
  obtain⟨vs,e,hr⟩:=hr
  exact⟨vs,e,RT.dB r h hr⟩
 |opt c a=>simp[AV.dB] at h
 |_=>exact RV.fD (cZ.dB r h hr)
def aj.dB(m:List (Nat×Nat)):aj→Option aj
 |
  .var t v=>match v.dB m with
  |some u=>if u.bB t then some (.var t u) else none
  |none=>none
 |
  .tv g t v=>match v.dB m with
  |some u=>if u.bB t then some (.tv g t u) else none
  |none=>none
 |k=>some k
theorem RB.dB{m:List (Nat×Nat)}{E E':Env}{w:World}(r:Rn m E E'){b c:Nat}(hc:E'.g c=E.g b∧E'.sv c=E.sv b∧E'.bt c=E.bt b){k k':aj}(h:k.dB m=some k')(hk:RB E w b k):RB E' w c k':=by
 obtain⟨e1,e2,e3⟩:=hc
 have kp:bm E w E' w:=⟨fun _ _=>rfl,r.S⟩
 cases k with
 |
  var t v=>
  simp only[aj.dB] at h
  split at h
  ·rename_i u hu
   split at h
   ·rename_i hconf
    cases h
    obtain⟨h1,h2,g,c',e,h3,h4,h5⟩:=hk
    exact⟨by rw[e3];exact h1,hconf,g,c',e,by rw[e1];exact h3,h4,RC.dB r hu h5⟩
   ·cases h
  ·cases h
 |
  row e bs t xs=>
  simp only[aj.dB,Option.some.injEq] at h;subst h
  obtain⟨h1,h2,h3,h4,a,cap,h5,h6,h7⟩:=hk
  refine⟨by rw[e3];exact h1,h2,h3,h4,a,cap,by rw[e2];exact h5,h6,?_⟩
  rcases h7 with⟨h7,h8,h9⟩|⟨g,c',h7,h8,h9,SW,Sy,h12⟩
  ·exact Or.inl ⟨h7,by rw[e1];exact h8,h9⟩
  ·exact Or.inr ⟨g,c',by rw[e1];exact h7,h8,h9,SW,Sy,aC.mono (fun _ _=>Rel.mono kp.w kp.S) h12⟩
 |
  map kt vt es=>
  simp only[aj.dB,Option.some.injEq] at h;subst h
  obtain⟨h1,h1',g,en,clock,h2,h3,h4,h5,h6⟩:=hk
  exact⟨h1,h1',g,en,clock,by rw[e1];exact h2,h3,RM.mono kp h4,h5,h6⟩
 |lp l r=>simp only[aj.dB,Option.some.injEq] at h;subst h;exact⟨by rw[e1];exact hk.1,hk.2⟩
 |wE=>simp only[aj.dB,Option.some.injEq] at h;subst h;obtain⟨g,h1,h2⟩:=hk;exact⟨g,by rw[e1];exact h1,h2⟩
 |
  tv g t v=>
  simp only[aj.dB] at h
  split at h
  ·rename_i u hu
   split at h
   ·rename_i hconf
    cases h
    obtain⟨h0,h1,h2,c',e,h4,h5⟩:=hk
    exact⟨by rw[e1];exact h0,by rw[e3];exact h1,hconf,c',e,h4,RC.dB r hu h5⟩
   ·cases h
  ·cases h
theorem sQ{hb:Nat→Option aj}:∀{x:AV}{m:Bool}{t:Ty}{y:AV}{l:List Nat},view hb x m t=some (y,l)→y.ids= []:=by
 intro x
 induction x with
 |val u x=>intro m t y l h;simp only[view,Option.some.injEq,Prod.mk.injEq] at h;rw[←h.1];rfl
 |dS=>intro m t y l h;cases m<;>cases t<;>simp[view] at h<;>(rw[←h.1];rfl)
 |
  own b=>
  intro m t y l h
  have h':(match dE hb b with|some ⟨bs,t,xs⟩=>some (AV.val (.slice bs t) xs,[b])|none=>none)=some (y,l):=by cases m<;>cases t<;>exact h
  split at h'<;>cases h';rfl
 |
  mo b lo len=>
  intro m t y l h
  have h':(match dE hb b with|some ⟨bs,t,xs⟩=>some (AV.val (.slice bs t) ((xs.drop lo).take len),[b])|none=>none)=some (y,l):=by cases m<;>cases t<;>exact h
  split at h'<;>cases h';rfl
 |
  ka b p lo len=>
  intro m t y l h
  cases t with
  |
   slice bs u=>
   have h':(match hb b with
    |
     some (.var _ v)=>match v.get p with
     |some (.val (.arr n t) xs)=>if Nat.ble (n*bs) az&&Nat.ble n az then some (AV.val (.slice bs t) ((List.drop lo xs).take len),[b]) else none
     |_=>none
    |_=>none)=some (y,l):=by cases m<;>exact h
   split at h'
   ·split at h'
    ·split at h'
     ·cases h';rfl
     ·cases h'
    ·cases h'
   ·cases h'
  |_=>cases m<;>simp[view] at h
 |
  ptr b p=>
  intro m t y l h
  have h':(match hb b with
   |
    some k=>match kH k p,(im k).sub p with
    |
     some u,some s=>match u.bc s with
     |some y=>some (AV.ec s y,[b])
     |none=>none
    |_,_=>none
   |none=>none)=some (y,l):=by cases m<;>cases t<;>exact h
  split at h'
  ·split at h'
   ·split at h'
    ·cases h';rfl
    ·cases h'
   ·cases h'
  ·cases h'
 |ec u x=>
  intro m t y l h;have h':some (AV.ec u x,([]:List Nat))=some (y,l):=by cases m<;>cases t<;>exact h
  cases h';rfl
 |
  func fn fs cs Sn Sk=>
  intro m t y l h
  have h':(match view hb fs true .unit,view hb cs true .unit with
   |some (f,l),some (c,m)=>if f.atoms&&c.atoms then some (AV.func fn f c,l++m) else none
   |_,_=>none)=some (y,l):=by cases m<;>cases t<;>exact h
  split at h'
  ·rename_i h1 h2
   split at h'
   ·cases h'
    simp only[AV.ids,Sn h1,Sk h2,List.append_nil]
   ·cases h'
  ·cases h'
 |
  cons a b Sn Sk=>
  intro m t y l h
  cases m with
  |
   true=>
   have h':(match view hb a false .unit,view hb b true .unit with
    |some (x,l),some (y,m)=>some (AV.cons x y,l++m)
    |_,_=>none)=some (y,l):=by cases t<;>exact h
   split at h'
   ·rename_i h1 h2
    cases h'
    simp only[AV.ids,Sn h1,Sk h2,List.append_nil]
   ·cases h'
  |
   false=>
   cases t with
   |
    pair s t=>
    simp only[view] at h
    split at h
    ·cases h;rfl
    ·cases h
   |_=>simp[view] at h
 |nil=>intro m t y l h;cases m<;>cases t<;>simp[view] at h<;>(rw[←h.1];rfl)
 |iw=>
  intro m t y l h;have h':some (AV.iw,([]:List Nat))=some (y,l):=by cases m<;>cases t<;>exact h
  cases h';rfl
 |ix=>
  intro m t y l h;have h':some (AV.ix,([]:List Nat))=some (y,l):=by cases m<;>cases t<;>exact h
  cases h';rfl
 |_=>intro m t y l h;cases m<;>cases t<;>simp[view] at h
def Jn(φ:List (Nat×Nat))(hb:Nat→Option aj)(x:AV)(t:Ty):Option (AV×List Nat):=
 if x.ids.isEmpty then(match view hb x false t with
  |some r=>some r
  |none=>(x.dB φ).map fun y=>(y,[]))
 else match x.dB φ with
  |some y=>some (y,[])
  |none=>view hb x false t
def sR(φ:List (Nat×Nat))(hb:Nat→Option aj):List (AV×Ty)→Option (List AV×List Nat)
 |[]=>some ([],[])
 |
  (x,t)::l=>if x.plain then(match Jn φ hb x t,sR φ hb l with
  |some (y,m),some (ys,ms)=>some (y::ys,m++ms)
  |_,_=>none) else none
theorem wh{gl:Ctx}{E E0:Env}{w:World}{hp:List (Option aj)}(hw:HW gl E w hp){hb:Nat→Option aj}(hB:HB hb hp){φ:List (Nat×Nat)}(hφ:∀b c,py φ b=some c→E0.g c=E.g b∧E0.sv c=E.sv b∧E0.bt c=E.bt b):
 ∀{l:List (AV×Ty)}{ys:List AV}{ms:List Nat}{vs:List Value},sR φ hb l=some (ys,ms)→(∀g,(E.bZ ms).S g→E0.S g)→aH E w (l.map (·.1)) vs→aH E0 w ys vs
 |
  [],ys,ms,vs,h,_,hr=>by
  cases h
  cases vs with
  |nil=>trivial
  |cons _ _=>exact hr.elim
 |
  (x,t)::l,ys,ms,vs,h,hS,hr=>by
  unfold sR at h
  split at h
  ·rename_i hp
   split at h
   ·rename_i y m ys' ms' h1 h2
    cases h
    cases vs with
    |nil=>exact hr.elim
    |
     cons v vs=>
     have hS1:∀g,(E.bZ m).S g→E0.S g:=fun g hg=>hS g (hg.imp id (fun⟨b,hb,e⟩=>⟨b,List.mem_append.2 (Or.inl hb),e⟩))
     have hS2:∀g,(E.bZ ms').S g→E0.S g:=fun g hg=>hS g (hg.imp id (fun⟨b,hb,e⟩=>⟨b,List.mem_append.2 (Or.inr hb),e⟩))
     refine⟨?_,wh hw hB hφ h2 hS2 hr.2⟩
     have hview:view hb x false t=some (y,m)→RV E0 w y v:=fun hv=>by
      have k1:=xw hw hB hv (RV.mq hp hr.1)
      exact RV.fD (cZ.mono (E:=E.bZ m) (E':=E0) ⟨fun _ _=>rfl,hS1⟩ (by rw[sQ hv];intro b hb;cases hb) k1)
     unfold Jn at h1
     split at h1
     ·split at h1
      ·rename_i r hr';cases h1;exact hview hr'
      ·simp only[Option.map_eq_some_iff] at h1
       obtain⟨z,hz,e⟩:=h1
       cases e
       exact RV.dB ⟨hφ,fun g hg=>hS1 g (Or.inl hg)⟩ hz hr.1
     ·split at h1
      ·rename_i z hz
       cases h1
       exact RV.dB ⟨hφ,fun g hg=>hS1 g (Or.inl hg)⟩ hz hr.1
      ·exact hview h1
   ·cases h
  ·cases h
theorem qu{φ:List (Nat×Nat)}{hb:Nat→Option aj}:∀{l:List (AV×Ty)}{ys:List AV}{ms:List Nat},sR φ hb l=some (ys,ms)→∀b∈ms,∃k,hb b=some k
 |[],ys,ms,h=>by cases h;intro b hb;cases hb
 |
  (x,t)::l,ys,ms,h=>by
  unfold sR at h
  split at h
  ·split at h
   ·rename_i y m ys' ms' h1 h2
    cases h
    intro b Sb
    rcases List.mem_append.1 Sb with Sb|Sb
    ·unfold Jn at h1
     split at h1
     ·split at h1
      ·rename_i r hr';cases h1;exact oD hr' b Sb
      ·simp only[Option.map_eq_some_iff] at h1
       obtain⟨z,hz,e⟩:=h1
       cases e
       cases Sb
     ·split at h1
      ·cases h1;cases Sb
      ·exact oD h1 b Sb
    ·exact qu h2 b Sb
   ·cases h
  ·cases h
def nP(φ:List (Nat×Nat))(hb:Nat→Option aj):List (Nat×Nat)→Option (List (Nat×Option aj))
 |[]=>some []
 |
  (i,b)::l=>match hb b with
  |
   some k=>match k.dB φ,nP φ hb l with
   |some k',some m=>some ((i,some k')::m)
   |_,_=>none
  |none=>none
theorem lT{φ:List (Nat×Nat)}{hb:Nat→Option aj}:∀{l:List (Nat×Nat)}{m:List (Nat×Option aj)}{i:Nat}{k:aj},nP φ hb l=some m→(i,some k)∈m→∃b k0,(i,b)∈l∧hb b=some k0∧k0.dB φ=some k
 |[],m,i,k,h,hm=>by cases h;cases hm
 |
  (j,b)::l,m,i,k,h,hm=>by
  unfold nP at h
  split at h
  ·rename_i k0 sJ
   split at h
   ·rename_i k' m' h1 h2
    cases h
    cases hm with
    |head=>exact⟨b,k0,List.mem_cons_self ..,sJ,h1⟩
    |
     tail _ hm=>
     obtain⟨b',k1,q1,q2,q3⟩:=lT h2 hm
     exact⟨b',k1,List.mem_cons_of_mem _ q1,q2,q3⟩
   ·cases h
  ·cases h
theorem dO{c:Nat}{k:aj}:∀{l:List (Nat×Option aj)}{hp:List (Option aj)},(aA hp l)[c]? =some (some k)→(c,some k)∈l∨(c∉wrote l∧hp[c]? =some (some k))
 |[],hp,h=>Or.inr ⟨by simp[wrote],h⟩
 |
  (b,o)::l,hp,h=>by
  rw[aA] at h
  rcases dO h with h1|⟨h1,h2⟩
  ·exact Or.inl (List.mem_cons_of_mem _ h1)
  ·rw[List.getElem?_set] at h2
   split at h2
   ·rename_i e;subst e
    split at h2
    ·cases h2;exact Or.inl (List.mem_cons_self ..)
    ·cases h2
   ·rename_i e
    refine Or.inr ⟨?_,h2⟩
    simp only[wrote,List.mem_cons,not_or]
    exact⟨fun e'=>e e'.symm,h1⟩
def lU:List Nat→Bool
 |[]=>true
 |x::l=> !bS x l&&lU l
theorem eW:∀{l:List Nat},lU l=true→l.Nodup
 |[],_=>List.nodup_nil
 |
  x::l,h=>by
  simp only[lU,Bool.and_eq_true,Bool.not_eq_true'] at h
  exact List.nodup_cons.2 ⟨c9 h.1,eW h.2⟩
theorem pz:∀{l:List (Nat×Nat)}{a b:Nat},py l a=some b→(a,b)∈l
 |[],a,b,h=>by cases h
 |
  (x,y)::l,a,b,h=>by
  unfold py at h
  split at h
  ·rename_i e;cases h;rw[Nat.eq_of_beq_eq_true e];exact List.mem_cons_self ..
  ·exact List.mem_cons_of_mem _ (pz h)
theorem eB:∀{l:List (Nat×Nat)}{a b:Nat},(l.map (·.1)).Nodup→(a,b)∈l→py l a=some b
 |
  (x,y)::l,a,b,hn,hm=>by
  simp only[List.map_cons,List.nodup_cons] at hn
  unfold py
  cases hm with
  |head=>simp
  |
   tail _ hm=>
   have:x≠a:=fun e=>hn.1 (e▸List.mem_map.2 ⟨(a,b),hm,rfl⟩)
   have hb:Nat.beq x a=false:=by
    cases h:Nat.beq x a with
    |false=>rfl
    |true=>exact absurd (Nat.eq_of_beq_eq_true h) this
   rw[hb]
   exact eB hn.2 hm
def swp(l:List (Nat×Nat)):List (Nat×Nat):=l.map fun x=>(x.2,x.1)
theorem kO{l:List (Nat×Nat)}{a b:Nat}:(a,b)∈swp l↔(b,a)∈l:=by
 unfold swp
 constructor
 ·intro h
  obtain⟨⟨x,y⟩,h1,h2⟩:=List.mem_map.1 h
  cases h2;exact h1
 ·intro h;exact List.mem_map.2 ⟨(b,a),h,rfl⟩
def N6:List (Nat×aj)→Nat→Option aj
 |[],_=>none
 |(i,k)::l,x=>if Nat.beq i x then some k else N6 l x
theorem zh:∀{l:List (Nat×aj)}{a:Nat}{k:aj},N6 l a=some k→(a,k)∈l
 |[],a,b,h=>by cases h
 |
  (x,y)::l,a,b,h=>by
  unfold N6 at h
  split at h
  ·rename_i e;cases h;rw[Nat.eq_of_beq_eq_true e];exact List.mem_cons_self ..
  ·exact List.mem_cons_of_mem _ (zh h)
def bz(m:Nat)(out:List (Nat×aj)):List (Option aj):=aA (List.replicate m none) (out.map fun x=>(x.1,some x.2))
theorem uq{m:Nat}:∀{out:List (Nat×aj)}{hp:List (Option aj)}{i:Nat}{k:aj},(out.map (·.1)).Nodup→(i,k)∈out→i<hp.length→(aA hp (out.map fun x=>(x.1,some x.2)))[i]? =some (some k)
 |
  (j,k')::out,hp,i,k,hn,hm,hl=>by
  simp only[List.map_cons,List.nodup_cons] at hn
  rw[List.map_cons,aA]
  cases hm with
  |
   head=>
   have hw:∀(l:List (Nat×aj)),j∉l.map (·.1)→j∉wrote (l.map fun x=>(x.1,some x.2)):=by
    intro l
    induction l with
    |nil=>simp[wrote]
    |cons x l ih=>intro h;simp only[List.map_cons,wrote,List.mem_cons,not_or] at h ⊢;exact⟨h.1,ih h.2⟩
   rw[eM (hw out hn.1),List.getElem?_set]
   simp[hl]
  |tail _ hm=>exact uq (m:=m) hn.2 hm (by simpa using hl)
end Go.Abs
namespace Go.Abs
structure CR where
 r:AV
 ps:List (Nat×Nat)
 ns:List (Nat×Nat)
 out:List (Nat×aj)
 m:Nat
def aj.eY:aj→Bool
 | .var _ v=>v.eY
 | .tv _ _ v=>v.eY
 | .row _ _ t _=>t.flat
 | .map k v _=>k.flat&&v.flat
 |_=>true
theorem RM.flat{E E':Env}{w w':World}{k v:Ty}(hk:k.flat=true)(hv:v.flat=true):∀{l:List MapEntry}{xs:List (k.den×v.den)},RM E w k v l xs→RM E' w' k v l xs
 |[],[],_=>trivial
 |[],_::_,h=>h.elim
 |_::_,[],h=>h.elim
 |_::_,_::_,h=>⟨cZ.flat (a:=.val k _) hk h.1,cZ.flat (a:=.val v _) hv h.2.1,RM.flat hk hv h.2.2⟩
theorem RB.flat{E:Env}{w:World}{S:Nat→Prop}{b:Nat}{k:aj}(hf:k.eY=true)(h:RB E w b k):RB {E with S:=S} w b k:=by
 cases k with
 |
  var t v=>
  obtain⟨h1,h2,g,c,e,h3,h4,h5⟩:=h
  exact⟨h1,h2,g,c,e,h3,h4,RC.flat hf h5⟩
 |
  row e bs t xs=>
  obtain⟨h1,h2,h3,h4,a,cap,h5,h6,h7⟩:=h
  refine⟨h1,h2,h3,h4,a,cap,h5,h6,h7.imp id ?_⟩
  rintro⟨g,c,h7,h8,h9,SW,Sy,h12⟩
  exact⟨g,c,h7,h8,h9,SW,Sy,aC.mono (fun _ _=>Rel.flat hf) h12⟩
 |
  map kt vt es=>
  simp only[aj.eY,Bool.and_eq_true] at hf
  obtain⟨h1,h1',g,en,clock,h2,h3,h4,h5⟩:=h
  exact⟨h1,h1',g,en,clock,h2,h3,RM.flat hf.1 hf.2 h4,h5⟩
 |lp l r=>exact h
 |wE=>exact h
 |
  tv g t v=>
  obtain⟨h0,h1,h2,c,e,h4,h5⟩:=h
  exact⟨h0,h1,h2,c,e,h4,RC.flat hf h5⟩
def Cf(ψ:List (Nat×Nat))(out:List (Nat×aj))(i:Nat):Option aj:=
 match N6 out i with
 |some k=>k.dB ψ
 |none=>none
def qv(ψ:List (Nat×Nat))(out:List (Nat×aj)):List (Nat×Nat)→List (Nat×Option aj)
 |[]=>[]
 |(i,b)::l=>(b,Cf ψ out i)::qv ψ out l
theorem wi{ψ:List (Nat×Nat)}{out:List (Nat×aj)}:∀{l:List (Nat×Nat)}{c:Nat}{k:aj},(c,some k)∈qv ψ out l→∃i,(i,c)∈l∧Cf ψ out i=some k
 |[],c,k,h=>by cases h
 |
  (i,b)::l,c,k,h=>by
  unfold qv at h
  rcases List.mem_cons.1 h with h|h
  ·simp only[Prod.mk.injEq] at h
   exact⟨i,by rw[h.1];exact List.mem_cons_self ..,h.2.symm⟩
  ·obtain⟨j,h1,h2⟩:=wi h
   exact⟨j,List.mem_cons_of_mem _ h1,h2⟩
theorem lV{ψ:List (Nat×Nat)}{out:List (Nat×aj)}:∀{l:List (Nat×Nat)}{i b:Nat},(i,b)∈l→b∈wrote (qv ψ out l)
 |
  (j,c)::l,i,b,h=>by
  unfold qv
  simp only[wrote,List.mem_cons]
  cases h with
  |head=>exact Or.inl rfl
  |tail _ h=>exact Or.inr (lV h)
def OY:List Nat→List Nat→Bool
 |[],_=>true
 |x::l,m=>bS x m&&OY l m
def wj(n:Nat):List Nat→Bool
 |[]=>true
 |x::l=>Nat.blt x n&&wj n l
theorem mC{n:Nat}:∀{l:List Nat},wj n l=true→∀x∈l,x<n
 |[],_,x,hx=>by cases hx
 |
  y::l,h,x,hx=>by
  simp only[wj,Bool.and_eq_true] at h
  cases hx with
  |head=>have:=h.1;simp[Nat.blt] at this;omega
  |tail _ hx=>exact mC h.2 x hx
def zi:List Nat→List Nat→Bool
 |[],_=>true
 |x::l,m=> !bS x m&&zi l m
theorem wm:∀{l m:List Nat},zi l m=true→∀x∈l,x∉m
 |[],_,_,x,hx=>by cases hx
 |
  y::l,m,h,x,hx=>by
  simp only[zi,Bool.and_eq_true,Bool.not_eq_true'] at h
  cases hx with
  |head=>exact c9 h.1
  |tail _ hx=>exact wm h.2 x hx
def mD:List (Nat×aj)→Bool
 |[]=>true
 |(_,k)::l=>k.eY&&mD l
theorem qw:∀{l:List (Nat×aj)},mD l=true→∀i k,(i,k)∈l→k.eY=true
 |[],_,i,k,h=>by cases h
 |
  (j,k')::l,hf,i,k,h=>by
  simp only[mD,Bool.and_eq_true] at hf
  cases h with
  |head=>exact hf.1
  |tail _ h=>exact qw hf.2 i k h
def Cg(cr:CR)(Sq:List Nat):Bool:=
 lU (cr.ps.map (·.1))&&lU ((cr.ps++cr.ns).map (·.2))&&wj 16 (cr.ps.map (·.1))&&lU (cr.out.map (·.1))&&wj cr.m (cr.out.map (·.1))&&zi Sq (cr.ps.map (·.2))&&lU ((cr.ps++cr.ns).map (·.1))&&
  (Sq.isEmpty||(cr.r.eY&&mD cr.out))
def yb(P:Program)(G:bH)(gl:Ctx)(cr:CR)(ev:Operand→AV)(hb:Nat→Option aj)(c:Call):Option bw:=
 match c.callee with
 |
  .value cf=>match ev cf with
  |
   .func fn fs cs=>
   match sR (swp cr.ps) hb (fs.toList.map (fun x=>(x,Ty.unit))++(c.args.toList.zip c.argTypes.toList).map (DI G ev)++cs.toList.map (fun x=>(x,Ty.unit))),nP (swp cr.ps) hb cr.ps,cr.r.dB (cr.ps++cr.ns) with
   |some (L,Sq),some ins,some r'=>if N2 fn fs cs&&fs.atoms&&cs.atoms&&Nat.beq c.args.toList.length c.argTypes.toList.length&&Cg cr Sq then
    some ⟨r',qv (cr.ps++cr.ns) cr.out (cr.ps++cr.ns),cr.ns.map (·.2),[Q7 P gl fn L (aA (List.replicate cr.m none) ins) (.ret cr.r) (bz cr.m cr.out)]⟩ else none
   |_,_,_=>none
  |_=>none
 |_=>none
def Env.to(E:Env)(ps:List (Nat×Nat))(S:Nat→Prop):Env where
 g:=fun i=>match py ps i with|some b=>E.g b|none=>none
 sv:=fun i=>match py ps i with|some b=>E.sv b|none=>undef
 bt:=fun i=>match py ps i with|some b=>E.bt b|none=>.unit
 S:=S
def Env.back(E E1:Env)(sns:List (Nat×Nat))(S:Nat→Prop):Env where
 g:=fun b=>match py sns b with|some i=>E1.g i|none=>E.g b
 sv:=fun b=>match py sns b with|some i=>E1.sv i|none=>E.sv b
 bt:=fun b=>match py sns b with|some i=>E1.bt i|none=>E.bt b
 S:=S
theorem Ch{l:List (Nat×Nat)}{a:Nat}(h:a∉l.map (·.1)):py l a=none:=by
 cases hl:py l a with
 |none=>rfl
 |some b=>exact absurd (List.mem_map.2 ⟨(a,b),pz hl,rfl⟩) h
section
variable{P:Program} {gl:Ctx} {σ:St} {E:Env} {a:Act} {w:World} {hb:Nat→Option aj} {cr:CR} {Sq:List Nat}
theorem Eu(h:cK gl σ E a w)(hB:HB hb σ.hp)(hlent:∀b∈Sq,∃k,hb b=some k){ins:List (Nat×Option aj)}(hins:nP (swp cr.ps) hb cr.ps=some ins)(R9:Cg cr Sq=true):
 (∀b c,py (swp cr.ps) b=some c→(E.to cr.ps (E.bZ Sq).S).g c=E.g b∧(E.to cr.ps (E.bZ Sq).S).sv c=E.sv b∧(E.to cr.ps (E.bZ Sq).S).bt c=E.bt b)∧
 HW gl (E.to cr.ps (E.bZ Sq).S) w (aA (List.replicate cr.m none) ins):=by
 simp only[Cg,Bool.and_eq_true] at R9
 obtain⟨⟨⟨⟨⟨⟨⟨o1,o2⟩,o3⟩,o4⟩,o5⟩,o6⟩,o7⟩,o8⟩:=R9
 have n1:=eW o1
 have n2:=eW o2
 rw[List.map_append] at n2
 have n2':=(List.nodup_append.1 n2).1
 have at0:∀b c,py (swp cr.ps) b=some c→(E.to cr.ps (E.bZ Sq).S).g c=E.g b∧(E.to cr.ps (E.bZ Sq).S).sv c=E.sv b∧(E.to cr.ps (E.bZ Sq).S).bt c=E.bt b:=by
  intro b c hbc
  have:=eB n1 (kO.1 (pz hbc))
  simp[Env.to,this]
 refine⟨at0,?_⟩
 have kp:bm E w (E.to cr.ps (E.bZ Sq).S) w:=⟨fun _ _=>rfl,fun g hg=>Or.inl hg⟩
 have rep:∀(b:Nat)(k:aj),(List.replicate cr.m (none:Option aj))[b]? ≠some (some k):=by
  intro b k hb
  rw[List.getElem?_replicate] at hb
  split at hb<;>cases hb
 have get:∀(i:Nat)(k:aj),(aA (List.replicate cr.m none) ins)[i]? =some (some k)→∃b k0,(i,b)∈cr.ps∧hb b=some k0∧k0.dB (swp cr.ps)=some k:=by
  intro i k hk
  rcases dO hk with h1|⟨_,h2⟩
  ·exact lT hins h1
  ·exact absurd h2 (rep i k)
 have gat:∀i b,(i,b)∈cr.ps→(E.to cr.ps (E.bZ Sq).S).g i=E.g b∧(E.to cr.ps (E.bZ Sq).S).sv i=E.sv b∧(E.to cr.ps (E.bZ Sq).S).bt i=E.bt b:=by
  intro i b hib
  have:=eB n1 hib
  simp[Env.to,this]
 refine⟨?_,?_,?_,?_,?_⟩
 ·intro i k hk
  obtain⟨b,k0,h1,h2,h3⟩:=get i k hk
  exact RB.dB ⟨at0,kp.S⟩ (gat i b h1) h3 (h.hw.bh b k0 (hB b k0 h2))
 ·intro i i' k k' g hi hi' g1 g2
  obtain⟨b,k0,h1,h2,h3⟩:=get i k hi
  obtain⟨b',k0',h1',h2',h3'⟩:=get i' k' hi'
  rw[(gat i b h1).1] at g1
  rw[(gat i' b' h1').1] at g2
  have e:=h.hw.sep b b' k0 k0' g (hB _ _ h2) (hB _ _ h2') g1 g2
  subst e
  have q1:=eB (l:=swp cr.ps) (by simpa[swp,List.map_map,Function.comp_def] using n2') (kO.2 h1)
  have q2:=eB (l:=swp cr.ps) (by simpa[swp,List.map_map,Function.comp_def] using n2') (kO.2 h1')
  rw[q1] at q2;cases q2;rfl
 ·intro i k g hi g1 hs
  obtain⟨b,k0,h1,h2,h3⟩:=get i k hi
  rw[(gat i b h1).1] at g1
  rcases hs with hs|⟨c,hc,hg⟩
  ·exact h.hw.fo b k0 g (hB _ _ h2) g1 hs
  ·obtain⟨k1,sK⟩:=hlent c hc
   have e:=h.hw.sep c b k1 k0 g (hB _ _ sK) (hB _ _ h2) hg g1
   subst e
   exact wm o6 c hc (List.mem_map.2 ⟨(i,c),h1,rfl⟩)
 ·rintro g (hg|⟨b,Sb,e⟩)
  ·exact h.hw.slt g hg
  ·obtain⟨k,hk⟩:=hlent b Sb
   exact Own.below h.hw ⟨b,k,hB b k hk,e⟩
 ·exact h.hw.ik kp
theorem Ci(h:cK gl σ E a w)(hB:HB hb σ.hp)(hlent:∀b∈Sq,∃k,hb b=some k){ins:List (Nat×Option aj)}(hins:nP (swp cr.ps) hb cr.ps=some ins)(R9:Cg cr Sq=true)(SK:∀b∈cr.ns.map (·.2),σ.fresh b)
 {E1:Env} {w1:World} (hW:HW gl E1 w1 (bz cr.m cr.out)) (hX:Ext gl.md (Own (aA (List.replicate cr.m none) ins) (E.to cr.ps (E.bZ Sq).S)) (E.to cr.ps (E.bZ Sq).S) w (Own (bz cr.m cr.out) E1) E1 w1)
 {v:Value} {r':AV} (hr':cr.r.dB (cr.ps++cr.ns)=some r') (hR:RV E1 w1 cr.r v):
 ∃E',cK gl {σ with hp:=aA σ.hp (qv (cr.ps++cr.ns) cr.out (cr.ps++cr.ns))} E' a w1∧RV E' w1 r' v∧Ext gl.md (Own σ.hp E) E w (Own (aA σ.hp (qv (cr.ps++cr.ns) cr.out (cr.ps++cr.ns))) E') E' w1:=by
 have hok0:=R9
 simp only[Cg,Bool.and_eq_true] at R9
 obtain⟨⟨⟨⟨⟨⟨⟨o1,o2⟩,o3⟩,o4⟩,o5⟩,o6⟩,o7⟩,o8⟩:=R9
 have n1:=eW o1
 have n2:=eW o2
 rw[List.map_append] at n2
 have n2a:=(List.nodup_append.1 n2).1
 have n2b:=(List.nodup_append.1 n2).2.1
 have n4:=eW o4
 have nall:((swp (cr.ps++cr.ns)).map (·.1)).Nodup:=by
  simp only[swp,List.map_map,Function.comp_def]
  rw[List.map_append];exact n2
 have uniq:∀i j b,(i,b)∈cr.ps++cr.ns→(j,b)∈cr.ps++cr.ns→i=j:=by
  intro i j b h1 h2
  have q1:=eB nall (kO.2 h1)
  have q2:=eB nall (kO.2 h2)
  rw[q1] at q2;cases q2;rfl
 have disj:∀b,b∈cr.ps.map (·.2)→b∉cr.ns.map (·.2):=fun b h1 h2=>(List.nodup_append.1 n2).2.2 b h1 b h2 rfl
 let S':Nat→Prop:=if Sq.isEmpty then E1.S else E.S
 let E':Env:=E.back E1 (swp cr.ns) S'
 have hS1:Sq= []→S'=E1.S:=fun e=>by simp[S',e]
 have hS2:Sq≠[]→S'=E.S:=fun e=>by
  have:Sq.isEmpty=false:=by cases Sq<;>simp_all
  simp[S',this]
 have inOwn:∀g,Own (aA (List.replicate cr.m none) ins) (E.to cr.ps (E.bZ Sq).S) g→∃i b k,(i,b)∈cr.ps∧hb b=some k∧E.g b=some g:=by
  rintro g ⟨i,k,hik,hg⟩
  rcases dO hik with q1|⟨_,q2⟩
  ·obtain⟨b,k0,z1,z2,z3⟩:=lT hins q1
   refine⟨i,b,k0,z1,z2,?_⟩
   have:=eB n1 z1
   simpa[Env.to,this] using hg
  ·rw[List.getElem?_replicate] at q2
   split at q2<;>cases q2
 have inOwn':∀g,Own (aA (List.replicate cr.m none) ins) (E.to cr.ps (E.bZ Sq).S) g→Own σ.hp E g:=fun g hg=>by
  obtain⟨i,b,k,_,z2,z3⟩:=inOwn g hg
  exact⟨b,k,hB b k z2,z3⟩
 have heapS:∀g,E.S g→w1.heap[g]? =w.heap[g]? :=fun g hg=>hX.kept g (h.hw.slt g hg) (fun ho=>by
  obtain⟨i,b,k,_,z2,z3⟩:=inOwn g ho
  exact h.hw.fo b k g (hB b k z2) z3 hg)
 have SS':∀g,E.S g→S' g:=fun g hg=>by
  by_cases hl:Sq= []
  ·rw[hS1 hl];exact hX.sle g (Or.inl hg)
  ·rw[hS2 hl];exact hg
 have S'1:∀g,S' g→E1.S g:=fun g hg=>by
  by_cases hl:Sq= []
  ·rwa [hS1 hl] at hg
  ·rw[hS2 hl] at hg;exact hX.sle g (Or.inl hg)
 have kp:bm E w E' w1:=⟨heapS,SS'⟩
 have gns:∀i b,(i,b)∈cr.ns→E'.g b=E1.g i∧E'.sv b=E1.sv i∧E'.bt b=E1.bt i:=fun i b hm=>by
  have:=eB (l:=swp cr.ns) (by simpa[swp,List.map_map,Function.comp_def] using n2b) (kO.2 hm)
  simp[E',Env.back,this]
 have gold:∀b,b∉cr.ns.map (·.2)→E'.g b=E.g b∧E'.sv b=E.sv b∧E'.bt b=E.bt b:=fun b hm=>by
  have:py (swp cr.ns) b=none:=Ch (by simpa[swp,List.map_map,Function.comp_def] using hm)
  simp[E',Env.back,this]
 have gps:∀i b,(i,b)∈cr.ps→E'.g b=E1.g i∧E'.sv b=E1.sv i∧E'.bt b=E1.bt i:=fun i b hm=>by
  have hi:i<16:=mC o3 i (List.mem_map.2 ⟨(i,b),hm,rfl⟩)
  obtain⟨p1,p2,p3⟩:=hX.IA i hi
  obtain⟨q1,q2,q3⟩:=gold b (disj b (List.mem_map.2 ⟨(i,b),hm,rfl⟩))
  have:=eB n1 hm
  rw[q1,q2,q3,p1,p2,p3]
  simp[Env.to,this]
 have gall:∀i b,(i,b)∈cr.ps++cr.ns→E'.g b=E1.g i∧E'.sv b=E1.sv i∧E'.bt b=E1.bt i:=fun i b hm=>(List.mem_append.1 hm).elim (gps i b) (gns i b)
 have rn:Rn (cr.ps++cr.ns) {E1 with S:=S'} E':=⟨fun i b hl=>gall i b (pz hl),fun g hg=>hg⟩
 have flat1:∀i k,(i,k)∈cr.out→RB {E1 with S:=S'} w1 i k:=fun i k hm=>by
  have Sg:i<(List.replicate cr.m (none:Option aj)).length:=by rw[List.length_replicate];exact mC o5 i (List.mem_map.2 ⟨(i,k),hm,rfl⟩)
  have hb1:=hW.bh i k (uq (m:=cr.m) n4 hm Sg)
  by_cases hl:Sq= []
  ·rw[hS1 hl];exact hb1
  ·have hf:mD cr.out=true:=by
    have:=o8
    simp only[Bool.or_eq_true,Bool.and_eq_true,List.isEmpty_iff] at this
    exact(this.resolve_left hl).2
   exact RB.flat (qw hf i k hm) hb1
 have outMem:∀c k,(c,some k)∈qv (cr.ps++cr.ns) cr.out (cr.ps++cr.ns)→∃i k0,(i,c)∈cr.ps++cr.ns∧(i,k0)∈cr.out∧k0.dB (cr.ps++cr.ns)=some k:=fun c k hm=>by
  obtain⟨i,z1,z2⟩:=wi hm
  unfold Cf at z2
  split at z2
  ·rename_i k0 sJ;exact⟨i,k0,z1,zh sJ,z2⟩
  ·cases z2
 have outAt1:∀i k,(i,k)∈cr.out→(bz cr.m cr.out)[i]? =some (some k):=fun i k hm=>
  uq (m:=cr.m) n4 hm (by rw[List.length_replicate];exact mC o5 i (List.mem_map.2 ⟨(i,k),hm,rfl⟩))
 have oldNot:∀c,c∉wrote (qv (cr.ps++cr.ns) cr.out (cr.ps++cr.ns))→c∉cr.ns.map (·.2)∧c∉cr.ps.map (·.2):=fun c hc=>by
  constructor
  ·intro hm
   obtain⟨⟨i,b⟩,z1,z2⟩:=List.mem_map.1 hm
   simp only at z2;subst z2
   exact hc (lV (List.mem_append.2 (Or.inr z1)))
  ·intro hm
   obtain⟨⟨i,b⟩,z1,z2⟩:=List.mem_map.1 hm
   simp only at z2;subst z2
   exact hc (lV (List.mem_append.2 (Or.inl z1)))
 have notIn:∀c k g,σ.hp[c]? =some (some k)→c∉cr.ps.map (·.2)→E.g c=some g→¬Own (aA (List.replicate cr.m none) ins) (E.to cr.ps (E.bZ Sq).S) g:=fun c k g hc hn hg ho=>by
  obtain⟨i,b,k',z1,z2,z3⟩:=inOwn g ho
  have e:=h.hw.sep c b k k' g hc (hB b k' z2) hg z3
  subst e
  exact hn (List.mem_map.2 ⟨(i,c),z1,rfl⟩)
 have on':∀ids:List Nat,(∀b∈ids,b∈σ.ids)→E.on E' ids:=fun ids hids b Sb=>gold b (fun hm=>(SK b hm).1 (hids b Sb))
 have hwn:HW gl E' w1 (aA σ.hp (qv (cr.ps++cr.ns) cr.out (cr.ps++cr.ns))):=by
  refine⟨?_,?_,?_,?_,h.hw.ik kp⟩
  ·intro c k hc
   rcases dO hc with h1|⟨h1,h2⟩
   ·obtain⟨i,k0,z1,z2,z3⟩:=outMem c k h1
    exact RB.dB rn (gall i c z1) z3 (flat1 i k0 z2)
   ·obtain⟨q1,q2⟩:=oldNot c h1
    refine RB.mono kp ?_ ?_ (h.hw.bh c k h2)
    ·intro b Sb
     rcases List.mem_cons.1 Sb with e|Sb
     ·rw[e];exact gold c q1
     ·exact gold b (fun hm=>(SK b hm).1 (St.va h2 b Sb))
    ·intro g hg
     exact hX.kept g (Own.below h.hw ⟨c,k,h2,hg⟩) (notIn c k g h2 q2 hg)
  ·intro c c' k k' g hc hc' g1 g2
   rcases dO hc with h1|⟨h1,h2⟩<;>rcases dO hc' with h1'|⟨h1',h2'⟩
   ·obtain⟨i,k0,z1,z2,z3⟩:=outMem c k h1
    obtain⟨i',k0',z1',z2',z3'⟩:=outMem c' k' h1'
    rw[(gall i c z1).1] at g1
    rw[(gall i' c' z1').1] at g2
    have e:=hW.sep i i' k0 k0' g (outAt1 i k0 z2) (outAt1 i' k0' z2') g1 g2
    subst e
    have q1:=eB (eW o7) z1
    have q2:=eB (eW o7) z1'
    rw[q1] at q2;cases q2;rfl
   ·obtain⟨i,k0,z1,z2,z3⟩:=outMem c k h1
    obtain⟨q1,q2⟩:=oldNot c' h1'
    rw[(gall i c z1).1] at g1
    rw[(gold c' q1).1] at g2
    rcases hX.own g ⟨i,k0,outAt1 i k0 z2,g1⟩ with y|y
    ·exact absurd y (notIn c' k' g h2' q2 g2)
    ·have:=Own.below h.hw ⟨c',k',h2',g2⟩;omega
   ·obtain⟨i,k0,z1,z2,z3⟩:=outMem c' k' h1'
    obtain⟨q1,q2⟩:=oldNot c h1
    rw[(gall i c' z1).1] at g2
    rw[(gold c q1).1] at g1
    rcases hX.own g ⟨i,k0,outAt1 i k0 z2,g2⟩ with y|y
    ·exact absurd y (notIn c k g h2 q2 g1)
    ·have:=Own.below h.hw ⟨c,k,h2,g1⟩;omega
   ·rw[(gold c (oldNot c h1).1).1] at g1
    rw[(gold c' (oldNot c' h1').1).1] at g2
    exact h.hw.sep c c' k k' g h2 h2' g1 g2
  ·intro c k g hc g1 hs
   rcases dO hc with h1|⟨h1,h2⟩
   ·obtain⟨i,k0,z1,z2,z3⟩:=outMem c k h1
    rw[(gall i c z1).1] at g1
    exact hW.fo i k0 g (outAt1 i k0 z2) g1 (S'1 g hs)
   ·obtain⟨q1,q2⟩:=oldNot c h1
    rw[(gold c q1).1] at g1
    by_cases hl:Sq= []
    ·have hs':E1.S g:=S'1 g hs
     rcases hX.xj g hs' with y|y|y
     ·rcases y with y|⟨b,Sb,_⟩
      ·exact h.hw.fo c k g h2 g1 y
      ·rw[hl] at Sb;cases Sb
     ·exact notIn c k g h2 q2 g1 y
     ·have:=Own.below h.hw ⟨c,k,h2,g1⟩;omega
    ·have hs':E.S g:=by have:=hs;change S' g at this;rwa [hS2 hl] at this
     exact h.hw.fo c k g h2 g1 hs'
  ·intro g hg;exact hW.slt g (S'1 g hg)
 refine⟨E',h.carry kp (on' _ (fun b Sb=>Sb)) hwn,?_,hX.os,hX.tape,hX.output,hX.size,?_,SS',?_,?_,?_⟩
 ·have hR':RV {E1 with S:=S'} w1 cr.r v:=by
   by_cases hl:Sq= []
   ·rw[hS1 hl];exact hR
   ·have hf:cr.r.eY=true:=by
     have:=o8
     simp only[Bool.or_eq_true,Bool.and_eq_true,List.isEmpty_iff] at this
     exact(this.resolve_left hl).1
    exact RV.flat hf hR
  exact RV.dB rn hr' hR'
 ·intro g hg hn
  exact hX.kept g hg (fun ho=>hn (inOwn' g ho))
 ·intro g hg
  by_cases hl:Sq= []
  ·rcases hX.xj g (S'1 g hg) with y|y|y
   ·rcases y with y|⟨b,Sb,_⟩
    ·exact Or.inl y
    ·rw[hl] at Sb;cases Sb
   ·exact Or.inr (Or.inl (inOwn' g y))
   ·exact Or.inr (Or.inr y)
  ·have hs':E.S g:=by have:=hg;change S' g at this;rwa [hS2 hl] at this
   exact Or.inl hs'
 ·rintro g ⟨c,k,hc,hg⟩
  rcases dO hc with h1|⟨h1,h2⟩
  ·obtain⟨i,k0,z1,z2,z3⟩:=outMem c k h1
   rw[(gall i c z1).1] at hg
   exact(hX.own g ⟨i,k0,outAt1 i k0 z2,hg⟩).imp (inOwn' g) id
  ·rw[(gold c (oldNot c h1).1).1] at hg
   exact Or.inl ⟨c,k,h2,hg⟩
 ·intro b Sb
  exact gold b (fun hm=>by have:=(SK b hm).2.2;omega)
end
theorem AI{P:Program}{G:bH}{gl:Ctx}{σ:St}{E:Env}{a:Act}{w:World}(h:cK gl σ E a w){o:Oper}{c:Call}(R5:o.op= .call c){ev:Operand→AV}{hb:Nat→Option aj}(hB:HB hb σ.hp){cr:CR}{r:bw}
 (Sj:∀x∈o.op.operands.toList,RV E w (ev x) (a.eval x)) (he:yb P G gl cr ev hb c=some r) (Sm:dT r.vc) (SK:∀b∈r.fr,σ.fresh b):qF P gl σ E a w o r:=by
 unfold yb at he
 split at he
 ·rename_i cf hcf
  split at he
  ·rename_i fn fs cs hfv
   split at he
   ·rename_i L Sq ins r' hL hins hr'
    split at he
    ·rename_i hcond
     cases he
     simp only[Bool.and_eq_true] at hcond
     obtain⟨⟨⟨⟨hfo,hfa⟩,hca⟩,hlen⟩,R9⟩:=hcond
     have hfc:=Sm.1
     have hopd:o.op.operands= #[cf]++c.args:=by rw[R5];simp only[Op.operands,Call.operands,hcf]
     have hcfv:=Sj cf (by rw[hopd];simp)
     rw[hfv] at hcfv
     obtain⟨f',c',e,r1,r2,_,_⟩:=RV.atom rfl hcfv
     simp at e
     have hargs:aH E w (c.args.toList.map ev) (c.args.toList.map a.eval):=aH.map _ (fun x hx=>Sj x (by rw[hopd];simp only[Array.toList_append,List.mem_append];exact Or.inr hx))
     have hall:=aH.append (aH.append (aH.atoms hfa r1) hargs) (aH.atoms hca r2)
     have hmap:(fs.toList.map (fun x=>(x,Ty.unit))++(c.args.toList.zip c.argTypes.toList).map (DI G ev)++cs.toList.map (fun x=>(x,Ty.unit))).map (·.1)=fs.toList++c.args.toList.map ev++cs.toList:=by
      simp only[List.map_append,List.map_map]
      have e1:∀l:List AV,l.map ((fun x:AV×Ty=>x.1)∘fun x=>(x,Ty.unit))=l:=by intro l;induction l<;>simp_all
      have e2:∀(l:List Operand)(m:List TypeId),l.length=m.length→(l.zip m).map ((fun x:AV×Ty=>x.1)∘DI G ev)=l.map ev:=by
       intro l
       induction l with
       |nil=>intro m _;rfl
       |
        cons x l ih=>
        intro m hm
        cases m with
        |nil=>simp at hm
        |
         cons y m=>
         simp only[List.zip_cons_cons,List.map_cons]
         rw[ih m (by simpa using hm)];rfl
      rw[e1,e1,e2 _ _ (Nat.eq_of_beq_eq_true hlen)]
     have hlent:=qu hL
     obtain⟨hφ,hw1⟩:=Eu h hB hlent hins R9
     have hv:=wh h.hw hB hφ hL (fun g hg=>hg) (by rw[hmap];exact hall)
     intro K Q hK
     unfold Oper.wpIn
     refine⟨fun _ _=>trivial,?_⟩
     rw[Oper.semAt_eq _ _ _ (by rw[R5];intro c h;cases h)]
     have post:∀(ed:Ending)(w':World),(∃E',J5 E' w' (.ret cr.r) ed∧HW gl E' w' (bz cr.m cr.out)∧Ext gl.md (Own (aA (List.replicate cr.m none) ins) (E.to cr.ps (E.bZ Sq).S)) (E.to cr.ps (E.bZ Sq).S) w (Own (bz cr.m cr.out) E') E' w')→
      (match ed,w' with
       | .returned v,w''=>K (a.put o.dst v) w''
       | .panicked chain,w''=>Q (.panic chain) a w''
       | .outgrown,_=>LetsOut Q):=by
      rintro ed w' ⟨E',hR,hW',hX⟩
      cases ed with
      |
       returned v=>
       obtain⟨E2,g1,g2,g3⟩:=Ci h hB hlent hins R9 SK hW' hX hr' hR
       exact hK E2 v w' g1 g2 g3
      |panicked ch=>exact hR.elim
      |outgrown=>exact hR.elim
     cases fn with
     |
      func f=>
      obtain⟨hcall,hfn⟩:=hfc
      have Ss:(execOp a.eval o).run P w= .ok (.enter f (f'.toList++c.args.toList.map a.eval++c'.toList).toArray) w:=by
       have:=hcall (f'++c.args.map a.eval++c') w
       simp only[execOp,R5,resolve,hcf,e,Sem.run_bind,Deferred.ofValue,Sem.run_pure,Result.andThen_ok,invoke]
       rw[this]
       congr 2
       apply Array.ext'
       simp
      rw[Ss]
      simp only[Oper.uponIn]
      refine⟨fun h=>(by cases h),?_⟩
      have h1:CallsIn Fence.wide 0 P f _ w _:=callsIn_wide.2 (hfn _ w _ hv hw1)
      exact CallsIn.mono (F:=Wd gl) h1 post
     |
      yield l=>
      have hfs:fs= .nil∧cs= .nil:=by
       cases fs<;>cases cs<;>simp[N2] at hfo
       exact⟨rfl,rfl⟩
      obtain⟨e1,e2⟩:=hfs
      subst e1;subst e2
      have hf':f'= #[]:=by apply Array.ext';exact r1
      have hc':c'= #[]:=by apply Array.ext';exact r2
      subst hf';subst hc'
      obtain⟨fn,tmps,assign,body,hy,hr⟩:=hfc _ w _ hv hw1
      have Ss:(execOp a.eval o).run P w= .ok (.round l fn tmps assign body) w:=by
       simp only[execOp,R5,resolve,hcf,e,Sem.run_bind,Deferred.ofValue,Sem.run_pure,Result.andThen_ok,invoke]
       rw[←hy]
       congr 2
       apply Array.ext'
       simp
      rw[Ss]
      simp only[Oper.uponIn]
      refine⟨fun h=>(by cases h),?_⟩
      exact RoundIn.mono (F:=Wd gl) hr post
     |_=>exact hfc.elim
    ·cases he
   ·cases he
  ·cases he
 ·cases he
end Go.Abs
namespace Go.Abs
def Ev(a b:Int):Int:=if b<a then b else a
def imax(a b:Int):Int:=if a<b then b else a
def sS:AV→AV→Option AV
 | .val (.int k) a,.val (.int k') b=>if Nat.beq (IntKind.code k) (IntKind.code k') then some (.val (.int k) (Ev a b)) else none
 |_,_=>none
def sT:AV→AV→Option AV
 | .val (.int k) a,.val (.int k') b=>if Nat.beq (IntKind.code k) (IntKind.code k') then some (.val (.int k) (imax a b)) else none
 |_,_=>none
theorem qx{P:Program}{E:Env}{w:World}{x y r:AV}{vx vy:Value}{ts:Array TypeId}{t:TypeId}(hx:RV E w x vx)(hy:RV E w y vy)(h:sS x y=some r):∃v,(Builtin.min_ ts t #[vx,vy]).run P w= .ok v w∧RV E w r v:=by
 unfold sS at h
 split at h
 ·rename_i k a k' b
  split at h
  ·rename_i hk
   cases h
   have:=IntKind.fA (Nat.eq_of_beq_eq_true hk)
   subst this
   obtain⟨rfl,h1⟩:=RV.bM hx
   obtain⟨rfl,h2⟩:=RV.bM hy
   refine⟨.int k (Ev a b),by simp[Builtin.min_,Builtin.min2,Ev],RV.int ?_⟩
   unfold Ev
   split
   ·exact h2
   ·exact h1
  ·cases h
 ·cases h
theorem qy{P:Program}{E:Env}{w:World}{x y r:AV}{vx vy:Value}{ts:Array TypeId}{t:TypeId}(hx:RV E w x vx)(hy:RV E w y vy)(h:sT x y=some r):∃v,(Builtin.max_ ts t #[vx,vy]).run P w= .ok v w∧RV E w r v:=by
 unfold sT at h
 split at h
 ·rename_i k a k' b
  split at h
  ·rename_i hk
   cases h
   have:=IntKind.fA (Nat.eq_of_beq_eq_true hk)
   subst this
   obtain⟨rfl,h1⟩:=RV.bM hx
   obtain⟨rfl,h2⟩:=RV.bM hy
   refine⟨.int k (imax a b),by simp[Builtin.max_,Builtin.max2,imax],RV.int ?_⟩
   unfold imax
   split
   ·exact h2
   ·exact h1
  ·cases h
 ·cases h
def Ew(s:List UInt8)(i:Int):Int:=((s.getD i.toNat 0).toNat:Int)
def MK:Option Nat→AV
 |none=>.ix
 |some f=>.func (.func f) .nil .nil
def kP(G:bH)(t:TypeId)(x i:AV):Option (AV×List Prop):=
 match G.at t with
 |
  some td=>match td.ty,x,i with
  | .str,.val .str s,.val (.int _) n=>some (.val (.int .u8) (Ew s n),[(0:Int)≤n,@LT.lt Int _ n (List.length s:Int)])
  | .fns m,.val (.fns m') xs,.val (.int _) n=>if Nat.beq m m' then some (MK (List.getD xs (Int.toNat n) none),[(0:Int)≤n,@LT.lt Int _ n (m:Int)]) else none
  | .arr m u,.val (.arr m' u') xs,.val (.int _) n=>if Nat.beq m m'&&Ty.same u u' then some (.val u' (List.getD xs (Int.toNat n) u'.aX),[(0:Int)≤n,@LT.lt Int _ n (m:Int)]) else none
  |_,_,_=>none
 |none=>none
theorem aW.Ii{P:Program}{G:bH}(T:aW P G){t:TypeId}{td:TD}(h:G.at t=some td){n:Nat}(hs:td.ty= .fns n):
 ∃te,P.underlying t=some (.array n td.e)∧G.at td.e=some te∧te.ty= .au .func:=by
 obtain⟨ii,d,_,h1,_,h2,_⟩:=T.info h
 have Sc:=cn h2
 cases hd:d with
 |
  array m e=>
  subst hd
  simp only[a8] at h2
  rw[Bool.or_eq_true] at h2
  rcases h2 with h2|h2
  ·split at h2
   ·rename_i m' te e1 e2
    rw[hs] at e1;cases e1
    simp only[Bool.and_eq_true] at h2
    obtain⟨⟨h3,h4⟩,h5⟩:=h2
    have h3:=Nat.eq_of_beq_eq_true h3
    have h4:=Nat.eq_of_beq_eq_true h4
    subst h3;subst h4
    exact⟨te,h1,e2,Ty.af h5⟩
   ·cases h2
  ·simp only[Bool.and_eq_true] at h2
   obtain⟨_,h2⟩:=h2
   split at h2
   ·rename_i e1 _ _;rw[hs] at e1;cases e1
   ·cases h2
 |
  struct fs=>
  subst hd
  simp only[a8] at h2
  rw[hs] at h2
  revert h2
  generalize fs.toList=l
  intro h2
  cases l<;>simp[aR] at h2
 |
  _=>
  subst hd
  simp only[cm] at Sc
  rw[hs] at Sc;cases Sc
theorem Ey{E:Env}{w:World}(o:Option Nat):RV E w (MK o) (A4 o):=by
 cases o with
 |none=>exact RV.fD (Or.inr ⟨rfl,rfl⟩)
 |some f=>exact RV.fD (Or.inr ⟨rfl, #[], #[],rfl,rfl,rfl,rfl,rfl⟩)
theorem RV.Cj{E:Env}{w:World}{s:List UInt8}{v:Value}(h:RV E w (.val .str s) v):v= .string ⟨s.toArray⟩:=by
 rcases RV.mq rfl h with⟨hh,_⟩|⟨_,hh⟩
 ·cases hh
 ·have:=hh.1
  simpa using this
theorem Ck{P:Program}{G:bH}(T:aW P G){t:TypeId}{td:TD}(ht:G.at t=some td){E:Env}{w:World}{cs:Array Value}{off:Nat}{u:AV}(hc:RC E w u ((cs.toList.drop off).take td.ty.size))(hu:u.bB td.ty=true)(hb:off+td.ty.size≤cs.size):
 ∃v,(part t cs off).run P w= .ok v w∧RV E w u v:=by
 have ha:=AV.mi hu
 by_cases Sc:td.ty.isAgg=true
 ·refine⟨.agg (cs.extract off (off+td.ty.size)),?_,RV.fD (Or.inl ⟨by rw[ha];exact Sc,_,rfl,?_⟩)⟩
  ·simp[part,T.isAgg ht,T.size ht,Sc]
  ·rw[Array.toList_extract,List.extract_eq_take_drop,show off+td.ty.size -off=td.ty.size by omega];exact hc
 ·have hagg':td.ty.isAgg=false:=by simpa using Sc
  have h1:td.ty.size=1:=by cases h:td.ty<;>rw[h] at hagg'<;>simp[Ty.isAgg] at hagg'<;>rfl
  rw[h1] at hc hb
  have Sg:off<cs.size:=by omega
  have e:(cs.toList.drop off).take 1= [cs[off]]:=by
   rw[List.drop_eq_getElem_cons (by simpa using Sg)];simp
  rw[e] at hc
  exact⟨cs[off],by simp[part,T.isAgg ht,hagg',Array.getElem?_eq_getElem Sg],RV.fD (Or.inr ⟨by rw[ha];exact hagg',hc⟩)⟩
theorem lW{P:Program}{G:bH}(T:aW P G){E:Env}{w:World}{t:TypeId}{x i r:AV}{vx vi:Value}{vc:List Prop}(hx:RV E w x vx)(hi:RV E w i vi)(h:kP G t x i=some (r,vc))(Sm:dT vc):
 ∃v,(Instr.index t vx vi).run P w= .ok v w∧RV E w r v:=by
 unfold kP at h
 split at h
 ·rename_i td ht
  split at h
  ·rename_i s k n Su
   cases h
   obtain⟨q1,q2,_⟩:=Sm
   obtain⟨rfl,_⟩:=RV.bM hi
   have:=RV.Cj hx
   subst this
   have hu:=T.strOf ht Su
   have hl:n.toNat<s.length:=by omega
   have hg:(⟨s.toArray⟩:ByteArray)[n.toNat]? =some s[n.toNat]:=by
    show(if h:n.toNat<s.toArray.size then some _ else none)=_
    rw[dif_pos (by simpa using hl)]
    rfl
   refine⟨.int .u8 (s[n.toNat].toNat:Int),?_,?_⟩
   ·simp[Instr.index,asIntOf,run_underlying hu,q1,hg]
   ·have:Ew s n=(s[n.toNat].toNat:Int):=by
     unfold Ew
     rw[List.getD_eq_getElem?_getD,List.getElem?_eq_getElem hl];rfl
    rw[this]
    refine RV.int ?_
    have:=s[n.toNat].toNat_lt
    have h1:IntKind.u8.min=0:=by decide
    have h2:IntKind.u8.max=255:=by decide
    omega
  ·rename_i m m' xs k n Su
   split at h
   ·rename_i hm
    cases h
    have:=Nat.eq_of_beq_eq_true hm
    subst this
    obtain⟨q1,q2,_⟩:=Sm
    obtain⟨rfl,_⟩:=RV.bM hi
    obtain⟨te,hu,he,hte⟩:=T.Ii ht Su
    rcases RV.mq rfl hx with⟨_,cs,rfl,hr⟩|⟨hh,_⟩
    ·obtain⟨hl,hcs⟩:=hr
     have hl':n.toNat<xs.length:=by omega
     have Sd:=T.size he w
     rw[hte] at Sd
     have hag:=T.isAgg he w
     rw[hte] at hag
     have hc:cs[n.toNat]? =some (A4 (List.getD xs n.toNat none)):=by
      rw[←Array.getElem?_toList,hcs,List.getElem?_map,List.getD_eq_getElem?_getD,List.getElem?_eq_getElem hl']
      rfl
     refine⟨A4 (List.getD xs n.toNat none),?_,Ey _⟩
     have hin:(0:Int)≤n∧n<(m:Int):=⟨q1,q2⟩
     simp[Instr.index,asIntOf,run_underlying hu,hin,part,hag,Sd,Ty.size,Ty.isAgg,hc]
    ·cases hh
   ·cases h
  ·rename_i m u m' u' xs k n Su
   split at h
   ·rename_i hm
    cases h
    simp only[Bool.and_eq_true] at hm
    have e1:=Nat.eq_of_beq_eq_true hm.1
    have e2:=Ty.af hm.2
    subst e1;subst e2
    obtain⟨q1,q2,_⟩:=Sm
    obtain⟨rfl,_⟩:=RV.bM hi
    obtain⟨te,hu,he,hte⟩:=T.m9 ht Su
    rcases RV.mq rfl hx with⟨_,cs,rfl,hr⟩|⟨hh,_⟩
    ·obtain⟨hl,hcs⟩:=hr
     have hl':n.toNat<xs.length:=by omega
     have SU:=aC.get (r:=Rel w E.S u) (n:=u.size) (fun _ _ h=>Rel.len h) u.aX n.toNat hcs hl'
     have hlen:=aC.len (n:=u.size) (fun _ _ h=>Rel.len h) hcs
     have hb:n.toNat*te.ty.size+te.ty.size≤cs.size:=by
      rw[hte,←Array.length_toList,hlen]
      have:=Nat.mul_le_mul_right u.size hl'
      rw[Nat.succ_mul] at this
      exact this
     have Sd:=T.size he w
     obtain⟨v,hv,hrv⟩:=Ck (P:=P) T he (E:=E) (w:=w) (cs:=cs) (off:=n.toNat*te.ty.size) (u:=.val u (List.getD xs n.toNat u.aX)) (by rw[hte];exact SU) (by rw[hte];exact Ty.cF _) hb
     refine⟨v,?_,hrv⟩
     have hin:(0:Int)≤n∧n<(m:Int):=⟨q1,q2⟩
     simp[Instr.index,asIntOf,run_underlying hu,hin,Sd,hv]
    ·cases hh
   ·cases h
  ·cases h
 ·cases h
def yc:AV→AV→Option (Bool×dW)
 | .oq,.oq=>some (true,.iface)
 | .iface _ _,.oq=>some (false,.iface)
 | .iw,.iw=>some (true,.ptr)
 | .ptr _ _,.iw=>some (false,.ptr)
 | .ec _ _,.iw=>some (false,.ptr)
 | .mh,.mh=>some (true,.map)
 | .mp _,.mh=>some (false,.map)
 | .ix,.ix=>some (true,.func)
 | .func _ _ _,.ix=>some (false,.func)
 |_,_=>none
def db:TypeDesc→Option dW
 | .interface _=>some .iface
 | .pointer _=>some .ptr
 | .map _ _=>some .map
 | .func _ _ _=>some .func
 |_=>none
def isConst:Operand→Bool
 | .const _=>true
 |_=>false
def uu(d:TypeDesc)(k:dW):Bool:=
 match db d with
 |some k'=>Nat.beq (dW.code k) (dW.code k')
 |none=>false
theorem sU{d:TypeDesc}{k:dW}(h:uu d k=true):db d=some k:=by
 unfold uu at h
 split at h
 ·rename_i k' hk'
  have:=dW.fA (Nat.eq_of_beq_eq_true h)
  rw[this];exact hk'
 ·cases h
def Cn(P:Program)(t:TypeId)(op:BinOp)(oy:Operand)(x y:AV):Option AV:=
 match op,yc x y,P.underlying t with
 | .eql,some (b,k),some d=>if isConst oy&&uu d k then some (.val .bool b) else none
 | .neq,some (b,k),some d=>if isConst oy&&uu d k then some (.val .bool (!b)) else none
 |_,_,_=>none
theorem RV.qz{E:Env}{w:World}{v:Value}(h:RV E w .oq v):v= .nilIface:=by
 rcases RV.mq rfl h with⟨hh,_⟩|⟨_,hh⟩
 ·cases hh
 ·simpa[RC] using hh
theorem RV.mE{E:Env}{w:World}{v:Value}(h:RV E w .iw v):v= .pointer none:=by
 rcases RV.mq rfl h with⟨hh,_⟩|⟨_,hh⟩
 ·cases hh
 ·simpa[RC] using hh
theorem RV.qA{E:Env}{w:World}{v:Value}(h:RV E w .mh v):v= .map none:=by
 rcases RV.mq rfl h with⟨hh,_⟩|⟨_,hh⟩
 ·cases hh
 ·simpa[RC] using hh
theorem RV.qB{E:Env}{w:World}{v:Value}(h:RV E w .ix v):v= .nilFunc:=by
 rcases RV.mq rfl h with⟨hh,_⟩|⟨_,hh⟩
 ·cases hh
 ·simpa[RC] using hh
theorem sV{P:Program}{E:Env}{w:World}{t:TypeId}{d:TypeDesc}{x y:AV}{vx vy:Value}{b:Bool}{k:dW}(hu:P.underlying t=some d)(hk:db d=some k)(hx:RV E w x vx)(hy:RV E w y vy)(h:yc x y=some (b,k)):
 (Op.equal t vx vy).run P w= .ok b w∧(∀(op:BinOp)(ox oy:Operand),isConst oy=true→(eqGuard op t ox oy vx vy).run P w= .ok () w)∧(binOp .eql t vx vy).run P w= .ok (.bool b) w∧(binOp .neq t vx vy).run P w= .ok (.bool (!b)) w:=by
 have e0:Op.maxDepth=9999+1:=rfl
 have fin:(Op.equal t vx vy).run P w= .ok b w→(∀(op:BinOp)(ox oy:Operand),isConst oy=true→(eqGuard op t ox oy vx vy).run P w= .ok () w)→binOp .eql t vx vy=(do pure (.bool (←Op.equal t vx vy)))→binOp .neq t vx vy=(do pure (.bool (!(←Op.equal t vx vy))))→
  (Op.equal t vx vy).run P w= .ok b w∧(∀(op:BinOp)(ox oy:Operand),isConst oy=true→(eqGuard op t ox oy vx vy).run P w= .ok () w)∧(binOp .eql t vx vy).run P w= .ok (.bool b) w∧(binOp .neq t vx vy).run P w= .ok (.bool (!b)) w:=by
  intro h1 h2 h3 h4
  refine⟨h1,h2,?_,?_⟩
  ·rw[h3];simp[h1]
  ·rw[h4];simp[h1]
 have gd:∀(op:BinOp)(ox oy:Operand),isConst oy=true→(eqGuard op t ox oy .nilIface .nilIface).run P w= .ok () w:=by
  intro op ox oy hc
  cases oy with
  |const c=>cases op<;>simp[eqGuard]
  |_=>simp[isConst] at hc
 unfold yc at h
 split at h<;>cases h
 ·obtain rfl:=RV.qz hx
  obtain rfl:=RV.qz hy
  cases d<;>simp[db] at hk
  exact fin (by rw[Op.equal,e0,Op.equalIn];simp[run_underlying hu]) gd rfl rfl
 ·rename_i ti v
  obtain⟨u,rfl⟩:∃u,vx= .iface ti u:=by
   rcases RV.mq rfl hx with⟨hh,_⟩|⟨_,hh⟩
   ·cases hh
   ·obtain⟨u,e,_⟩:=hh;exact⟨u,by simpa using e⟩
  obtain rfl:=RV.qz hy
  cases d<;>simp[db] at hk
  exact fin (by rw[Op.equal,e0,Op.equalIn];simp[run_underlying hu]) (by intro op ox oy _;cases op<;>simp[eqGuard]) rfl rfl
 ·obtain rfl:=RV.mE hx
  obtain rfl:=RV.mE hy
  cases d<;>simp[db] at hk
  exact fin (by rw[Op.equal,e0,Op.equalIn];simp[run_underlying hu]) (by intro op ox oy _;cases op<;>simp[eqGuard]) rfl rfl
 ·obtain⟨a,rfl⟩:∃a,vx= .pointer (some a):=by
   rcases RV.mq rfl hx with⟨hh,_⟩|⟨_,hh⟩
   ·cases hh
   ·obtain⟨g,_,e,_⟩:=hh;exact⟨_,by simpa using e⟩
  obtain rfl:=RV.mE hy
  cases d<;>simp[db] at hk
  exact fin (by rw[Op.equal,e0,Op.equalIn];simp[run_underlying hu]) (by intro op ox oy _;cases op<;>simp[eqGuard]) rfl rfl
 ·obtain⟨a,rfl⟩:∃a,vx= .pointer (some a):=by
   rcases RV.mq rfl hx with⟨hh,_⟩|⟨_,hh⟩
   ·cases hh
   ·obtain⟨bb,o,cs,e,_⟩:=hh;exact⟨_,by simpa using e⟩
  obtain rfl:=RV.mE hy
  cases d<;>simp[db] at hk
  exact fin (by rw[Op.equal,e0,Op.equalIn];simp[run_underlying hu]) (by intro op ox oy _;cases op<;>simp[eqGuard]) rfl rfl
 ·obtain rfl:=RV.qA hx
  obtain rfl:=RV.qA hy
  cases d<;>simp[db] at hk
  exact fin (by rw[Op.equal,e0,Op.equalIn];simp[run_underlying hu]) (by intro op ox oy _;cases op<;>simp[eqGuard]) rfl rfl
 ·obtain⟨a,rfl⟩:∃a,vx= .map (some a):=by
   rcases RV.mq rfl hx with⟨hh,_⟩|⟨_,hh⟩
   ·cases hh
   ·obtain⟨g,_,e⟩:=hh;exact⟨_,by simpa using e⟩
  obtain rfl:=RV.qA hy
  cases d<;>simp[db] at hk
  exact fin (by rw[Op.equal,e0,Op.equalIn];simp[run_underlying hu]) (by intro op ox oy _;cases op<;>simp[eqGuard]) rfl rfl
 ·obtain rfl:=RV.qB hx
  obtain rfl:=RV.qB hy
  cases d<;>simp[db] at hk
  exact fin (by rw[Op.equal,e0,Op.equalIn];simp[run_underlying hu]) (by intro op ox oy _;cases op<;>simp[eqGuard]) rfl rfl
 ·obtain⟨f,c1,c2,rfl⟩:∃f c1 c2,vx= .func f c1 c2:=by
   rcases RV.mq rfl hx with⟨hh,_⟩|⟨_,hh⟩
   ·cases hh
   ·obtain⟨c1,c2,e,_⟩:=hh;exact⟨_,_,_,by simpa using e⟩
  obtain rfl:=RV.qB hy
  cases d<;>simp[db] at hk
  exact fin (by rw[Op.equal,e0,Op.equalIn];simp[run_underlying hu]) (by intro op ox oy _;cases op<;>simp[eqGuard]) rfl rfl
theorem Co{P:Program}{E:Env}{w:World}{t:TypeId}{op:BinOp}{ox oy:Operand}{x y r:AV}{vx vy:Value}(hx:RV E w x vx)(hy:RV E w y vy)(h:Cn P t op oy x y=some r):
 (eqGuard op t ox oy vx vy).run P w= .ok () w∧∃v,(binOp op t vx vy).run P w= .ok v w∧RV E w r v:=by
 unfold Cn at h
 split at h
 ·rename_i b k d hn hd
  split at h
  ·rename_i hc
   cases h
   simp only[Bool.and_eq_true] at hc
   obtain⟨hc1,hc2⟩:=hc
   obtain⟨_,h2,h3,_⟩:=sV hd (sU hc2) hx hy hn
   exact⟨h2 _ ox oy hc1,_,h3,RV.bool⟩
  ·cases h
 ·rename_i b k d hn hd
  split at h
  ·rename_i hc
   cases h
   simp only[Bool.and_eq_true] at hc
   obtain⟨hc1,hc2⟩:=hc
   obtain⟨_,h2,_,h3⟩:=sV hd (sU hc2) hx hy hn
   exact⟨h2 _ ox oy hc1,_,h3,RV.bool⟩
  ·cases h
 ·cases h
def AV.uv:AV→Option Nat
 | .func (.func f) .nil .nil=>some f
 |_=>none
theorem yd{E:Env}{w:World}{x:AV}{v:Value}{f:Nat}(h:x.uv=some f)(hx:RV E w x v):v=A4 (some f):=by
 unfold AV.uv at h
 split at h
 ·cases h
  rcases RV.mq rfl hx with⟨hh,_⟩|⟨_,hh⟩
  ·cases hh
  ·obtain⟨a,b,e,h1,h2,_⟩:=hh
   have ha:a= #[]:=by apply Array.ext';simpa[RC] using h1
   have hb:b= #[]:=by apply Array.ext';simpa[RC] using h2
   subst ha;subst hb
   exact(List.cons.inj e).1
 ·cases h
def zj:List (Option Nat)→List (Nat×AV)→Option (List (Option Nat))
 |xs,[]=>some xs
 |
  xs,(i,v)::l=>match v.uv with
  |some f=>if Nat.blt i xs.length then zj (xs.set i (some f)) l else none
  |none=>none
theorem wo{E:Env}{w:World}:
 ∀{ps:List (Nat×AV)}{vs:List (Nat×Value)}{xs ys:List (Option Nat)}{cells:Array Value},RP E w ps vs→cells.toList=xs.map A4→zj xs ps=some ys→
  ∃R6,Instr.fill (fun i=>some (i*1,1)) cells vs=some R6∧R6.toList=ys.map A4∧ys.length=xs.length
 |
  [],[],xs,ys,cells,_,hr,h=>by
  cases h;exact⟨cells,rfl,hr,rfl⟩
 |[],_::_,_,_,_,h,_,_=>h.elim
 |_::_,[],_,_,_,h,_,_=>h.elim
 |
  (i,x)::ps,(j,v)::vs,xs,ys,cells,⟨e,hx,hps⟩,hr,h=>by
  simp only at e;subst e
  simp only[zj] at h
  split at h
  ·rename_i f hf
   split at h
   ·rename_i hi
    have hi:i<xs.length:=by simp[Nat.blt] at hi;omega
    have hv:v=A4 (some f):=yd hf hx
    have Sd:cells.size=xs.length:=by rw[←Array.length_toList,hr,List.length_map]
    obtain⟨R6,f1,f2⟩:=kZ (fun i=>some (i*1,1)) cells i (i*1) 1 v vs rfl (by rw[hv];rfl) (by omega)
    rw[f1]
    have aA:R6.toList=(xs.set i (some f)).map A4:=by
     rw[f2,hr,Nat.mul_one,List.map_set,hv]
     rw[List.set_eq_take_append_cons_drop,if_pos (by simpa using hi)]
     simp[A4,Value.cells]
    obtain⟨c2,g1,g2,g3⟩:=wo hps aA h
    exact⟨c2,g1,g2,by rw[g3,List.length_set]⟩
   ·cases h
  ·cases h
def qC(G:bH)(t:TypeId)(ps:List (Nat×AV)):Option AV:=
 match G.at t with
 |
  some td=>match td.ty with
  | .fns n=>(zj (List.replicate n none) ps).map fun xs=>.val (.fns n) xs
  |_=>none
 |none=>none
theorem ye{P:Program}{G:bH}(T:aW P G){E:Env}{w:World}{t:TypeId}{ps:List (Nat×AV)}{vs:Array (Nat×Value)}(hp:RP E w ps vs.toList){r:AV}(h:qC G t ps=some r):
 ∃v,(Instr.build t vs).run P w= .ok v w∧RV E w r v:=by
 unfold qC at h
 split at h
 ·rename_i td ht
  obtain⟨z,hz,hz1,hz2⟩:=T.zero ht w
  split at h
  ·rename_i n Su
   simp only[Option.map_eq_some_iff] at h
   obtain⟨xs,hxs,rfl⟩:=h
   obtain⟨te,h1,h2,h3⟩:=T.Ii ht Su
   have Sd:=T.size h2 w
   rw[h3] at Sd
   rw[Su] at hz1
   have SO:RC E w (Ty.zero (.fns n)) z.cells.toList:=(fB (E:=E) (w:=w) hz1).1
   have hrel2:z.cells.toList=(List.replicate n none).map A4:=SO.2
   obtain⟨R6,f1,f2,f3⟩:=wo hp hrel2 hxs
   refine⟨.agg R6,?_,RV.fD (Or.inl ⟨rfl,R6,rfl,⟨by rw[f3,List.length_replicate],f2⟩⟩)⟩
   simp only[Nat.mul_one] at f1
   simp[Instr.build,hz,underlying,h1,Sd,Ty.size,f1]
  ·cases h
 ·cases h
def zl(G:bH)(t:TypeId):Option (Ty×Ty):=
 match G.at t with
 |
  some td=>match G.at td.e,G.at td.e2 with
  |some k,some v=>if Ty.same td.ty (.au .map)&&k.ty.keyed then some (k.ty,v.ty) else none
  |_,_=>none
 |none=>none
def isInt:AV→Bool
 | .val (.int _) _=>true
 |_=>false
def yf:Option AV→Bool
 |some y=>isInt y
 |none=>true
def lX(G:bH)(d:Nat)(t:TypeId)(x:Option AV):Option bw:=
 match zl G t with
 |some (kt,vt)=>if yf x then some ⟨.mp d,[(d,some (.map kt vt []))],[d],[]⟩ else none
 |none=>none
theorem rS{P:Program}{G:bH}(T:aW P G){gl:Ctx}{σ:St}{E:Env}{a:Act}{w:World}(h:cK gl σ E a w){d:Nat}{t:TypeId}{r:bw}{x:Option AV}{rs:Option Value}(hrs:RO E w x rs)(he:lX G d t x=some r)(SK:∀b∈r.fr,σ.fresh b):
 ∃v w' E',(Instr.makeMap t rs).run P w= .ok v w'∧cK gl {σ with hp:=aA σ.hp r.hw} E' a w'∧RV E' w' r.v v∧Ext gl.md (Own σ.hp E) E w (Own (aA σ.hp r.hw) E') E' w':=by
 unfold lX at he
 split at he
 ·rename_i kt vt hm
  split at he
  ·rename_i hx
   cases he
   have h1:∃ke ve,P.underlying t=some (.map ke ve):=by
    unfold zl at hm
    split at hm
    ·rename_i td ht
     split at hm
     ·rename_i k v hk hv
      split at hm
      ·rename_i hc
       cases hm
       simp only[Bool.and_eq_true] at hc
       exact⟨_,_,T.mapOf ht (Ty.af hc.1)⟩
      ·cases hm
     ·cases hm
    ·cases hm
   obtain⟨ke,ve,h1⟩:=h1
   have hf:=SK d (by simp)
   obtain⟨g1,x1⟩:=h.fresh (w':=w.alloc (.map #[] 0)) hf (g:=some w.heap.size) (sv:=undef) (t:=.unit) (k:=.map kt vt []) rfl (Tp.r rfl rfl) rfl (by simp) (fun i hi=>heap_alloc_old w _ i hi) (fun i hi=>by cases hi;exact Nat.le_refl _)
    ⟨by simp,by simp[az],w.heap.size, #[],0,by simp[Env.at],heap_alloc_new w _,trivial,by simp,by simp⟩
   refine⟨.map (some w.heap.size),_,_,?_,g1,RV.fD (Or.inr ⟨rfl,w.heap.size,by simp[Env.at],rfl⟩),x1⟩
   cases rs with
   |none=>simp[Instr.makeMap]
   |
    some v=>
    cases x with
    |none=>exact hrs.elim
    |
     some y=>
     have hv:RV E w y v:=hrs
     cases y with
     |
      val ty n=>
      cases ty with
      |
       int k=>
       obtain⟨rfl,_⟩:=RV.bM hv
       simp[Instr.makeMap,run_underlying h1,asInt,asIntOf]
      |_=>simp[yf,isInt] at hx
     |_=>simp[yf,isInt] at hx
  ·cases he
 ·cases he
def zm(P:Program)(G:bH)(d:Nat)(op:Op)(ev:Operand→AV):Option bw:=
 match op with
 | .build t ps=>(qC G t (kN ev ps)).map .one
 | .binOp o t x y _=>(Cn P t o y (ev x) (ev y)).map .one
 | .index t x i=>(kP G t (ev x) (ev i)).map .Kl
 | .makeMap t x=>lX G d t (x.map ev)
 | .call {callee:=.builtin .min,args:=⟨[x,y]⟩,argTypes:=_}=>(sS (ev x) (ev y)).map .one
 | .call {callee:=.builtin .max,args:=⟨[x,y]⟩,argTypes:=_}=>(sT (ev x) (ev y)).map .one
 | .makeFunc (.func _) _ _=>some (.one .fx)
 |_=>none
theorem Cp{P:Program}{G:bH}(T:aW P G){gl:Ctx}{σ:St}{E:Env}{a:Act}{w:World}(h:cK gl σ E a w){o:Oper}{d:Nat}{ev:Operand→AV}{r:bw}
 (Sj:∀x∈o.op.operands.toList,RV E w (ev x) (a.eval x)) (he:zm P G d o.op ev=some r) (Sm:dT r.vc) (SK:∀b∈r.fr,σ.fresh b):bu P gl σ E a w o r:=by
 unfold zm at he
 split at he
 ·rename_i t ps R5
  simp only[Option.map_eq_some_iff] at he
  obtain⟨u,hu,rfl⟩:=he
  have hp:RP E w (kN ev ps) (ps.map fun(i,x)=>(i,a.eval x)).toList:=by
   rw[Array.toList_map]
   refine jE (fun x hx=>Sj x.2 ?_)
   simp only[R5,Op.operands,List.mem_map]
   exact⟨x,hx,rfl⟩
  obtain⟨v,h1,h2⟩:=ye T hp hu
  exact bu.same h (v:=v) (by simp[execOp,R5,h1]) h2
 ·rename_i bo t x y t2 R5
  simp only[Option.map_eq_some_iff] at he
  obtain⟨u,hu,rfl⟩:=he
  obtain⟨h0,v,h1,h2⟩:=Co (P:=P) (ox:=x) (Sj x (by simp[R5,Op.operands])) (Sj y (by simp[R5,Op.operands])) hu
  exact bu.same h (v:=v) (by simp[execOp,R5,h0,h1]) h2
 ·rename_i t x i R5
  simp only[Option.map_eq_some_iff] at he
  obtain⟨⟨u,vc⟩,hu,rfl⟩:=he
  obtain⟨v,h1,h2⟩:=lW T (Sj x (by simp[R5,Op.operands])) (Sj i (by simp[R5,Op.operands])) hu Sm
  exact bu.same h (v:=v) (by simp[execOp,R5,h1]) h2
 ·rename_i t x R5
  obtain⟨v,w',E',h1,h2,h3,h4⟩:=rS T h (rs:=x.map a.eval) (um (fun y hy=>Sj y (by simp[R5,Op.operands,hy]))) he SK
  exact⟨_,v,w',E',by simp[execOp,R5,h1],Or.inl rfl,h2,h3,h4⟩
 ·rename_i x y ts R5
  simp only[Option.map_eq_some_iff] at he
  obtain⟨u,hu,rfl⟩:=he
  obtain⟨v,h1,h2⟩:=qx (P:=P) (ts:=ts) (t:=o.type) (Sj x (by simp[R5,Op.operands,Call.operands])) (Sj y (by simp[R5,Op.operands,Call.operands])) hu
  exact bu.same h (v:=v) (by simp[execOp,R5,resolve,invoke,builtin,h1]) h2
 ·rename_i x y ts R5
  simp only[Option.map_eq_some_iff] at he
  obtain⟨u,hu,rfl⟩:=he
  obtain⟨v,h1,h2⟩:=qy (P:=P) (ts:=ts) (t:=o.type) (Sj x (by simp[R5,Op.operands,Call.operands])) (Sj y (by simp[R5,Op.operands,Call.operands])) hu
  exact bu.same h (v:=v) (by simp[execOp,R5,resolve,invoke,builtin,h1]) h2
 ·rename_i f fs cs R5
  cases he
  exact bu.same h (v:=.func (.func f) (fs.map a.eval) (cs.map a.eval)) (by simp[execOp,R5,Instr.makeFunc]) (RV.fD (Or.inr ⟨rfl,_,_,_,rfl⟩))
 ·cases he
end Go.Abs
namespace Go.Abs
theorem gA:∀{l m:List Prop},dT (l++m)→dT l∧dT m
 |[],_,h=>⟨trivial,h⟩
 |_::_l,_,h=>⟨⟨h.1,(gA h.2).1⟩,(gA h.2).2⟩
def dA(need:List Nat)(hp:List (Option aj))(b:Nat):Option aj:=if bS b need then(hp[b]?).join else none
def Cq:Operand→List Nat
 | .tmp t=>[t]
 |_=>[]
def slotsOf(l:List Operand):List Nat:=l.flatMap Cq
def jc(ops:Array Oper)(o:Oper):Option Nat:=
 match o.guard with
 |none=>none
 |some (j,_)=>(ops[j]?).bind (·.dst)
def ML:Bool→Bool→Bool
 |true,b=>b
 |false,b=> !b
def guardOf(ops:Array Oper)(tm:List AV)(o:Oper):Option Bool:=
 match o.guard with
 |none=>some true
 |
  some (j,want)=>match(ops[j]?).bind (·.dst) with
  |
   some t=>match tm[t]? with
   |some (.val .bool b)=>some (ML b want)
   |some (.bU .nil)=>some false
   |_=>none
  |none=>none
def Ij:Option Nat→Nat
 |some d=>d+16
 |none=>16
def Jo:Op→Bool
 | .call {callee:=.builtin _, .. }=>false
 | .call _=>true
 |_=>false
def sW(P:Program)(G:bH)(d:Nat)(op:Op)(ev:Operand→AV)(hb:Nat→Option aj):Option bw:=
 match l8 P G d op ev hb with
 |some e=>some e
 |
  none=>match zg P G d op ev hb with
  |some e=>some e
  |none=>zm P G d op ev
theorem wq{P:Program}{G:bH}{d:Nat}{op:Op}{ev:Operand→AV}{hb:Nat→Option aj}{r:bw}(h:sW P G d op ev hb=some r):∀c,op≠.defer c:=by
 intro c e;subst e;simp[sW,l8,zg,zm] at h
theorem wu{P:Program}{G:bH}(T:aW P G){gl:Ctx}{σ:St}{E:Env}{a:Act}{w:World}(h:cK gl σ E a w){o:Oper}{d:Nat}{ev:Operand→AV}{hb:Nat→Option aj}(hB:HB hb σ.hp){r:bw}
 (Sj:∀x∈o.op.operands.toList,RV E w (ev x) (a.eval x)) (hids:∀x∈o.op.operands.toList,∀b∈(ev x).ids,b∈σ.ids) (he:sW P G d o.op ev hb=some r) (Sm:dT r.vc) (SK:∀b∈r.fr,σ.fresh b):bu P gl σ E a w o r:=by
 unfold sW at he
 split at he
 ·rename_i e h1;cases he;exact DH T h hB Sj hids h1 Sm SK
 ·split at he
  ·rename_i e h1;cases he;exact Ce T h hB Sj h1 Sm SK
  ·exact Cp T h Sj he Sm SK
def zn(P:Program)(G:bH)(gl:Ctx)(d:Nat)(r:CR)(op:Op)(ev:Operand→AV)(hb:Nat→Option aj):Option bw:=
 match op with
 |
  .call c=>match c.callee with
  | .builtin _=>sW P G d (.call c) ev hb
  |_=>yb P G gl r ev hb c
 |op=>sW P G d op ev hb
def pA:Option Bool→AV→Option (AV×List Prop)
 |none,v=>some (v,[])
 |some b,.val .bool e=>some (.val .bool b,[e=b])
 |_,_=>none
def N7:List (Nat×Ty)→Nat→Option Ty
 |[],_=>none
 |(t,ty)::l,x=>if Nat.beq t x then some ty else N7 l x
def Ez(hb:Nat→Option aj)(z:List (Nat×Ty))(ev:Operand→AV):Operand→AV
 |
  .tmp t=>match N7 z t with
  |
   some ty=>match view hb (ev (.tmp t)) false ty with
   |some (y,_)=>if(ev (.tmp t)).plain then y else .bot
   |none=>.bot
  |none=>ev (.tmp t)
 |x=>ev x
def kv(hb:Nat→Option aj)(ev:Operand→AV):List (Nat×Ty)→List Nat
 |[]=>[]
 |
  (t,ty)::l=>(match view hb (ev (.tmp t)) false ty with
  |some (_,m)=>m
  |none=>[])++kv hb ev l
def qD(ev:Operand→AV):List (Nat×Ty)→List Nat
 |[]=>[]
 |(t,_)::l=>(ev (.tmp t)).ids++qD ev l
def eC:List Nat→List (Nat×Option aj)
 |[]=>[]
 |b::l=>(b,none)::eC l
def Cr:List (Nat×Ty)→List Nat
 |[]=>[]
 |(t,_)::l=>t::Cr l
def OZ:List (Nat×Nat×Ty)→Nat→List (Nat×Ty)
 |[],_=>[]
 |(j,t,ty)::l,i=>if Nat.beq j i then(t,ty)::OZ l i else OZ l i
def yg(P:Program)(G:bH)(gl:Ctx)(ops:Array Oper)(r:CR)(g:Option Bool)(z:List (Nat×Ty))(σ:St)(i:Nat):Option (ba×List Prop):=
 match ops[i]? with
 |none=>none
 |
  some o=>
  match guardOf ops σ.tm o with
  |none=>none
  |some false=>some (⟨(jc ops o).toList,[],[],o.dst,.bU .nil,[]⟩,[])
  |
   some true=>
   match z with
   |
    []=>(match zn P G gl (Ij o.dst) r o.op (bD gl σ.tm) (dA (xv o.op (bD gl σ.tm)++r.ps.map (·.2)) σ.hp) with
    |none=>none
    |
     some e=>match pA g e.v with
     |some (v,vc)=>some (⟨slotsOf o.op.operands.toList++(jc ops o).toList,xv o.op (bD gl σ.tm)++r.ps.map (·.2),e.fr,o.dst,v,e.hw⟩,e.vc++vc)
     |none=>none)
   |
    z=>(match zn P G gl (Ij o.dst) r o.op (Ez (dA (qD (bD gl σ.tm) z) σ.hp) z (bD gl σ.tm)) (dA (xv o.op (Ez (dA (qD (bD gl σ.tm) z) σ.hp) z (bD gl σ.tm))++r.ps.map (·.2)) (aA σ.hp (eC (kv (dA (qD (bD gl σ.tm) z) σ.hp) (bD gl σ.tm) z)))) with
    |none=>none
    |
     some e=>match pA g e.v with
     |some (v,vc)=>some (⟨slotsOf o.op.operands.toList++Cr z++(jc ops o).toList,qD (bD gl σ.tm) z++(xv o.op (Ez (dA (qD (bD gl σ.tm) z) σ.hp) z (bD gl σ.tm))++r.ps.map (·.2)),e.fr,o.dst,v,eC (kv (dA (qD (bD gl σ.tm) z) σ.hp) (bD gl σ.tm) z)++e.hw⟩,e.vc++vc)
     |none=>none)
theorem jF{gl:Ctx}{σ:St}{E:Env}{a:Act}{w:World}(h:cK gl σ E a w){ops:Array Oper}{o:Oper}{c:Bool}(hc:guardOf ops σ.tm o=some c):Region.wanted o (yielded ops a.tmps)=c:=by
 unfold guardOf at hc
 unfold Region.wanted
 split at hc
 ·rename_i hg
  cases hc;rw[hg]
 ·rename_i j want hg
  rw[hg]
  split at hc
  ·rename_i t ht
   have hy:∀v,a.tmps[t]? =some v→yielded ops a.tmps j=(match v with| .bool b=>some b|_=>none):=by
    intro v hv
    unfold yielded
    rw[ht];simp only[Option.bind_some,hv]
    cases v<;>rfl
   split at hc
   ·rename_i b hb
    cases hc
    have Sg:t<a.tmps.size:=by rw[h.len];exact(List.getElem?_eq_some_iff.1 hb).1
    have hr:=h.tm t _ hb a.tmps[t] (by simp[Sg])
    have hv:=RV.cI hr
    simp only
    rw[hy a.tmps[t] (by simp[Sg]),hv]
    cases want<;>cases b<;>rfl
   ·rename_i hb
    cases hc
    have Sg:t<a.tmps.size:=by rw[h.len];exact(List.getElem?_eq_some_iff.1 hb).1
    obtain⟨vs,e,_⟩:=h.tm t _ hb a.tmps[t] (by simp[Sg])
    simp only
    rw[hy a.tmps[t] (by simp[Sg]),e]
    rfl
   ·cases hc
  ·cases hc
theorem oL{gl:Ctx}{σ σ':St}{rt rb:List Nat}(ha:lG σ σ' rt rb){x:Operand}(hx:∀t∈Cq x,t∈rt):bD gl σ'.tm x=bD gl σ.tm x:=by
 cases x with
 |tmp t=>simp only[bD];rw[ha.tm t (hx t (by simp[Cq]))]
 |_=>rfl
theorem iJ{σ σ':St}{rt rb:List Nat}(ha:lG σ σ' rt rb){ops:Array Oper}{o:Oper}(hx:∀t∈(jc ops o).toList,t∈rt):guardOf ops σ'.tm o=guardOf ops σ.tm o:=by
 unfold guardOf
 unfold jc at hx
 split
 ·rfl
 ·rename_i j want hg
  rw[hg] at hx
  simp only at hx
  split
  ·rename_i t ht
   rw[ht] at hx
   rw[ha.tm t (hx t (by simp))]
  ·rfl
theorem qE{σ σ':St}{rt need:List Nat}(ha:lG σ σ' rt need):HB (dA need σ.hp) σ'.hp:=by
 intro b k hk
 unfold dA at hk
 split at hk
 ·rename_i hn
  have hm:b∈need:=by
   have key:∀l:List Nat,bS b l=true→b∈l:=by
    intro l
    induction l with
    |nil=>intro h;cases h
    |
     cons x l ih=>
     intro h
     simp only[bS,Bool.or_eq_true] at h
     rcases h with h|h
     ·rw[Nat.eq_of_beq_eq_true h];exact List.mem_cons_self ..
     ·exact List.mem_cons_of_mem _ (ih h)
   exact key need hn
  rw[ha.hp b hm]
  cases hx:σ.hp[b]? with
  |none=>rw[hx] at hk;cases hk
  |some y=>rw[hx] at hk;simp at hk;rw[hk]
 ·cases hk
theorem qF.wp{P:Program}{gl:Ctx}{σ:St}{E:Env}{a:Act}{w:World}{o:Oper}{r:bw}(h:qF P gl σ E a w o r){K:Act→World→Prop}{Q:Exit→Act→World→Prop}{x:AV}
 (hx:∀E' w' v,RV E' w' r.v v→RV E' w' x v) (hk:∀E' a' w',cK gl (({σ with hp:=aA σ.hp r.hw}:St).put o.dst x) E' a' w'→Ext gl.md (Own σ.hp E) E w (Own (aA σ.hp r.hw) E') E' w'→K a' w'):o.wpIn (Wd gl) 0 P a w K Q:=
 h K Q (fun E' v w' h1 h2 h3=>hk E' _ w' (h1.put o.dst (hx E' w' v h2)) h3)
theorem wv{P:Program}{G:bH}(T:aW P G){gl:Ctx}{σ:St}{E:Env}{a:Act}{w:World}(h:cK gl σ E a w){o:Oper}{d:Nat}{x:CR}{ev:Operand→AV}{hb:Nat→Option aj}(hB:HB hb σ.hp){r:bw}
 (Sj:∀x∈o.op.operands.toList,RV E w (ev x) (a.eval x)) (hids:∀x∈o.op.operands.toList,∀b∈(ev x).ids,b∈σ.ids) (he:zn P G gl d x o.op ev hb=some r) (Sm:dT r.vc) (SK:∀b∈r.fr,σ.fresh b):qF P gl σ E a w o r:=by
 unfold zn at he
 split at he
 ·rename_i c R5
  split at he
  ·exact(wu T h hB Sj hids (by rw[R5];exact he) Sm SK).to (by rw[R5];exact wq he)
  ·exact AI h R5 hB Sj he Sm SK
 ·exact(wu T h hB Sj hids he Sm SK).to (wq he)
theorem qG{g:Option Bool}{x v:AV}{vc:List Prop}(h:pA g x=some (v,vc))(Sm:dT vc):v=x:=by
 unfold pA at h
 split at h
 ·cases h;rfl
 ·cases h;have:=Sm.1;subst this;rfl
 ·cases h
theorem qH:∀(l m:List (Nat×Option aj))(hp:List (Option aj)),aA hp (l++m)=aA (aA hp l) m
 |[],_,_=>rfl
 |(b,k)::l,m,hp=>by simp only[List.cons_append,aA];exact qH l m _
theorem c5:∀{l:List Nat}{hp:List (Option aj)}{b:Nat}{k:aj},(aA hp (eC l))[b]? =some (some k)→b∉l∧hp[b]? =some (some k)
 |[],hp,b,k,h=>⟨by simp,h⟩
 |
  c::l,hp,b,k,h=>by
  simp only[eC,aA] at h
  obtain⟨h1,h2⟩:=c5 h
  rw[List.getElem?_set] at h2
  split at h2
  ·split at h2<;>cases h2
  ·rename_i R7;exact⟨by simp only[List.mem_cons,not_or];exact⟨fun e=>R7 e.symm,h1⟩,h2⟩
theorem cK.QZ{gl:Ctx}{σ:St}{E:Env}{a:Act}{w:World}(h:cK gl σ E a w){l:List Nat}(hl:∀b∈l,∃k,σ.hp[b]? =some (some k)):
 cK gl {σ with hp:=aA σ.hp (eC l)} (E.bZ l) a w∧Ext gl.md (Own σ.hp E) E w (Own (aA σ.hp (eC l)) (E.bZ l)) (E.bZ l) w:=by
 have hk:bm E w (E.bZ l) w:=Env.dF l
 have on:∀ids,E.on (E.bZ l) ids:=fun ids b _=>⟨rfl,rfl,rfl⟩
 refine⟨⟨h.len,fun i x hi v hv=>RV.mono hk (on _) (h.tm i x hi v hv),⟨?_,?_,?_,?_,h.hw.ik hk⟩,RD.mono hk (fun _ _=>on _) h.df⟩,⟨rfl,Tp.r rfl rfl,rfl,Nat.le_refl _,fun _ _ _=>rfl,fun g hg=>Or.inl hg,?_,?_,fun _ _=>⟨rfl,rfl,rfl⟩⟩⟩
 ·intro b k hb
  exact RB.mono hk (on _) (fun _ _=>rfl) (h.hw.bh b k (c5 hb).2)
 ·intro b b' k k' g hb Sb h1 h2
  exact h.hw.sep b b' k k' g (c5 hb).2 (c5 Sb).2 h1 h2
 ·intro b k g hb hg hs
  obtain⟨h1,h2⟩:=c5 hb
  rcases hs with hs|⟨c,hc,e⟩
  ·exact h.hw.fo b k g h2 hg hs
  ·obtain⟨k',hk'⟩:=hl c hc
   have:=h.hw.sep c b k' k g hk' h2 e hg
   subst this;exact h1 hc
 ·rintro g (hs|⟨c,hc,e⟩)
  ·exact h.hw.slt g hs
  ·obtain⟨k',hk'⟩:=hl c hc
   exact Own.below h.hw ⟨c,k',hk',e⟩
 ·rintro g (hs|⟨c,hc,e⟩)
  ·exact Or.inl hs
  ·obtain⟨k',hk'⟩:=hl c hc
   exact Or.inr (Or.inl ⟨c,k',hk',e⟩)
 ·rintro g ⟨b,k,hb,hg⟩
  exact Or.inl ⟨b,k,(c5 hb).2,hg⟩
theorem qI{hb:Nat→Option aj}{ev:Operand→AV}:∀{z:List (Nat×Ty)}{b:Nat},b∈kv hb ev z→∃k,hb b=some k
 |[],b,h=>by cases h
 |
  (t,ty)::l,b,h=>by
  simp only[kv,List.mem_append] at h
  rcases h with h|h
  ·split at h
   ·rename_i y m hv;exact oD hv b h
   ·cases h
  ·exact qI h
theorem wx{hb:Nat→Option aj}{ev:Operand→AV}{t:Nat}{ty:Ty}{y:AV}{m:List Nat}(hv:view hb (ev (.tmp t)) false ty=some (y,m)):∀{z:List (Nat×Ty)},N7 z t=some ty→∀b∈m,b∈kv hb ev z
 |[],h,b,hbm=>by cases h
 |
  (t',ty')::l,h,b,hbm=>by
  simp only[N7] at h
  simp only[kv,List.mem_append]
  split at h
  ·rename_i e
   have e:=Nat.eq_of_beq_eq_true e
   subst e;cases h
   left;rw[hv];exact hbm
  ·exact Or.inr (wx hv h b hbm)
theorem Jp{gl:Ctx}{σ:St}{E:Env}{a:Act}{w:World}(h:cK gl σ E a w){hb:Nat→Option aj}(hB:HB hb σ.hp){z:List (Nat×Ty)}{ev:Operand→AV}{x:Operand}(hx:RV E w (ev x) (a.eval x)):RV (E.bZ (kv hb ev z)) w (Ez hb z ev x) (a.eval x):=by
 have hk:bm E w (E.bZ (kv hb ev z)) w:=Env.dF _
 have triv:RV (E.bZ (kv hb ev z)) w (ev x) (a.eval x):=RV.mono hk (fun b _=>⟨rfl,rfl,rfl⟩) hx
 unfold Ez
 split
 ·rename_i t
  split
  ·rename_i ty Su
   split
   ·rename_i y m hv
    split
    ·rename_i hp
     have h1:=xw h.hw hB hv (RV.mq hp hx)
     refine RV.fD (cZ.mono (E:=E.bZ m) (Env.fY (fun b Sb=>wx hv Su b Sb)) (fun b _=>⟨rfl,rfl,rfl⟩) h1)
    ·trivial
   ·trivial
  ·exact triv
 ·exact triv
theorem EA{hb:Nat→Option aj}{z:List (Nat×Ty)}{ev:Operand→AV}{x:Operand}:∀b∈(Ez hb z ev x).ids,b∈(ev x).ids:=by
 unfold Ez
 intro b Sb
 split at Sb
 ·split at Sb
  ·split at Sb
   ·rename_i y m hv
    split at Sb
    ·rw[sQ hv] at Sb;cases Sb
    ·cases Sb
   ·cases Sb
  ·exact Sb
 ·exact Sb
theorem AJ{σ:St}{l:List Nat}{d:Nat}(h:σ.fresh d):({σ with hp:=aA σ.hp (eC l)}:St).fresh d:=by
 refine⟨?_,fun k hk=>h.2.1 k (c5 hk).2,h.2.2⟩
 have h1:=pN.1 h.1
 exact pN.2 ⟨h1.1,h1.2.1,fun i k hk=>h1.2.2 i k (c5 hk).2⟩
theorem AK{P:Program}{G:bH}(T:aW P G){gl:Ctx}{ops:Array Oper}{r:CR}{g:Option Bool}{z:List (Nat×Ty)}{σ:St}{i:Nat}{f:ba}{vc:List Prop}(h:yg P G gl ops r g z σ i=some (f,vc))(Sm:dT vc):J3 P gl ops i f σ:=by
 unfold yg at h
 split at h
 ·cases h
 ·rename_i o ho
  split at h
  ·cases h
  ·rename_i hc
   cases h
   intro σ' ha SK E a w hg K Q hK
   unfold wpOpIn
   simp only[ho]
   have hw:=jF hg (ops:=ops) (o:=o) (c:=false) (by rw[iJ ha (fun t ht=>ht)];exact hc)
   rw[hw]
   simp only[Bool.false_eq_true,if_false]
   exact⟨fun _ _=>trivial,hK E _ w (hg.put o.dst ⟨#[],rfl,rfl⟩) (by rw[iq];exact Ext.refl _ _ _)⟩
  ·rename_i hc
   split at h
   ·split at h
    ·cases h
    ·rename_i e he
     split at h
     ·rename_i v vc' hav
      cases h
      obtain⟨hv1,Sx⟩:=gA Sm
      have hv:=qG hav Sx
      subst hv
      intro σ' ha SK E a w hg K Q hK
      unfold wpOpIn
      simp only[ho]
      have hw:=jF hg (ops:=ops) (o:=o) (c:=true) (by rw[iJ ha (fun t ht=>by simp at ht ⊢;exact Or.inr ht)];exact hc)
      rw[hw]
      simp only[if_true]
      have ex:∀u,u∈o.op.operands.toList→bD gl σ'.tm u=bD gl σ.tm u:=fun u hu=>oL ha (fun t ht=>by simp only[List.mem_append,slotsOf,List.mem_flatMap];exact Or.inl ⟨u,hu,ht⟩)
      have hs:qF P gl σ' E a w o e:=by
       refine wv T hg (qE ha) (ev:=bD gl σ.tm) ?_ ?_ he hv1 SK
       ·intro x hx
        have:=mZ hg x
        rw[ex x hx] at this
        exact this
       ·intro x hx b hb
        rw[←ex x hx] at hb
        exact tG b hb
      exact hs.wp (x:=e.v) (fun _ _ _ h=>h) (fun E' a' w' h1 h2=>hK E' a' w' h1 (by rw[iq];exact h2))
     ·cases h
   ·split at h
    ·cases h
    ·rename_i e he
     split at h
     ·rename_i v vc' hav
      cases h
      obtain⟨hv1,Sx⟩:=gA Sm
      have hv:=qG hav Sx
      subst hv
      intro σ' ha SK E a w hg K Q hK
      unfold wpOpIn
      simp only[ho]
      have hw:=jF hg (ops:=ops) (o:=o) (c:=true) (by rw[iJ ha (fun t ht=>by simp at ht ⊢;exact Or.inr (Or.inr ht))];exact hc)
      rw[hw]
      simp only[if_true]
      have ex:∀u,u∈o.op.operands.toList→bD gl σ'.tm u=bD gl σ.tm u:=fun u hu=>oL ha (fun t ht=>by simp only[List.mem_append,slotsOf,List.mem_flatMap];exact Or.inl (Or.inl ⟨u,hu,ht⟩))
      have ha1:lG σ σ' [] (qD (bD gl σ.tm) z):=⟨ha.tl,ha.hl,fun _ h=>(List.not_mem_nil h).elim,fun b hb=>ha.hp b (List.mem_append.2 (Or.inl hb))⟩
      have hB1:=qE ha1
      generalize hl:kv (dA (qD (bD gl σ.tm) z) σ.hp) (bD gl σ.tm) z=l at he hK
      have hlk:∀b∈l,∃k,σ'.hp[b]? =some (some k):=by
       intro b hb
       rw[←hl] at hb
       obtain⟨k,hk⟩:=qI hb
       exact⟨k,hB1 b k hk⟩
      obtain⟨g1,x1⟩:=hg.QZ hlk
      have ha2:lG {σ with hp:=aA σ.hp (eC l)} {σ' with hp:=aA σ'.hp (eC l)} [] (xv o.op (Ez (dA (qD (bD gl σ.tm) z) σ.hp) z (bD gl σ.tm))++r.ps.map (·.2)):=
       ⟨ha.tl,by simp only[rC];exact ha.hl,fun _ h=>(List.not_mem_nil h).elim,fun b hb=>oB ha.hl (ha.hp b (List.mem_append.2 (Or.inr hb)))⟩
      have hs:qF P gl {σ' with hp:=aA σ'.hp (eC l)} (E.bZ l) a w o e:=by
       refine wv T g1 (qE ha2) (ev:=Ez (dA (qD (bD gl σ.tm) z) σ.hp) z (bD gl σ.tm)) ?_ ?_ he hv1 (fun b hb=>AJ (SK b hb))
       ·intro x hx
        have h0:=mZ hg x
        rw[ex x hx] at h0
        have h1:=Jp (z:=z) hg hB1 h0
        rw[hl] at h1
        exact h1
       ·intro x hx b hb
        have hb:=EA b hb
        rw[←ex x hx] at hb
        exact tG (σ:={σ' with hp:=aA σ'.hp (eC l)}) b hb
      refine hs.wp (x:=e.v) (fun _ _ _ h=>h) (fun E' a' w' h1 h2=>hK E' a' w' ?_ ?_)
      ·simp only[qH,St.app] at h1 ⊢;exact h1
      ·rw[iq];simp only[qH];exact x1.trans h2
     ·cases h
def O0(ops:Array Oper)(i:Nat):Bool:=
 match ops[i]? with
 |some o=>Jo o.op
 |none=>false
def Ik:List Oper→Nat→Bool
 |[],_=>false
 |o::l,i=>(match o.guard with|some (j,_)=>Nat.beq i j|none=>false)||Ik l i
def nQ(P:Program)(G:bH)(gl:Ctx)(ops:Array Oper):Nat→Nat→List CR→List Bool→List (Nat×Nat×Ty)→St→Option (List ba×List Prop×St)
 |0,_,_,_,_,σ=>some ([],[],σ)
 |
  n+1,i,rs,gs,zs,σ=>
  let src:=Ik ops.toList i
  match yg P G gl ops (rs.headD ⟨.bot,[],[],[],0⟩) (if src then gs.head? else none) (OZ zs i) σ i with
  |none=>none
  |
   some (f,vc)=>if f.fr.all σ.oA then(match nQ P G gl ops n (i+1) (if O0 ops i then rs.tail else rs) (if src then gs.tail else gs) zs (σ.app f) with
   |none=>none
   |some (fs,vcs,σ')=>some (f::fs,vc++vcs,σ')) else none
theorem nR{P:Program}{G:bH}(T:aW P G){gl:Ctx}{ops:Array Oper}:∀{n i:Nat}{rs:List CR}{gs:List Bool}{zs:List (Nat×Nat×Ty)}{σ:St}{fs:List ba}{vcs:List Prop}{σ':St},nQ P G gl ops n i rs gs zs σ=some (fs,vcs,σ')→dT vcs→gG P gl ops i fs σ σ'∧fs.length=n
 |0,i,rs,gs,zs,σ,fs,vcs,σ',h,_=>by cases h;exact⟨rfl,rfl⟩
 |
  n+1,i,rs,gs,zs,σ,fs,vcs,σ',h,hv=>by
  unfold nQ at h
  simp only at h
  split at h
  ·cases h
  ·rename_i f vc hs
   split at h
   ·rename_i hf
    split at h
    ·cases h
    ·rename_i fs' vcs' σ2 hr
     cases h
     obtain⟨h1,h2⟩:=gA hv
     obtain⟨k1,k2⟩:=nR T hr h2
     refine⟨⟨AK T hs h1,?_,k1⟩,by simp[k2]⟩
     intro d hd
     simp only[List.all_eq_true] at hf
     exact St.nc (hf d hd)
   ·cases h
def j9(P:Program)(G:bH)(gl:Ctx)(ops:Array Oper)(rs:List CR)(gs:List Bool)(zs:List (Nat×Nat×Ty))(σ:St):St:=
 match nQ P G gl ops ops.size 0 rs gs zs σ with
 |some (_,_,σ')=>σ'
 |none=>σ
def qJ(P:Program)(G:bH)(gl:Ctx)(ops:Array Oper)(rs:List CR)(gs:List Bool)(zs:List (Nat×Nat×Ty))(σ:St):Option (List Prop):=
 match nQ P G gl ops ops.size 0 rs gs zs σ with
 |some (_,vcs,_)=>some vcs
 |none=>none
def kx(P:Program)(G:bH)(gl:Ctx)(ops:Array Oper)(rs:List CR)(gs:List Bool)(zs:List (Nat×Nat×Ty))(σ:St):Option (List Prop):=
 match nQ P G gl ops ops.size 0 rs gs zs σ with
 |some (fs,vcs,_)=>if rG ops fs&&rH σ fs then some vcs else none
 |none=>none
end Go.Abs
namespace Go.Abs
inductive jG where
 |normal
 |exit (id:Nat)
 |ret
 |panic (v:AV)
def Q0(E:Env)(w:World):jG→Exit→Prop
 | .normal,.normal=>True
 | .exit i,.exit j=>i=j
 | .ret,.ret=>True
 | .panic x,.panic chain=>∃u,chain= [{v:=u,recovered:=false}]∧cZ E w x u
 |_,_=>False
def zo(gl:Ctx)(Q:jG→St→Prop)(σ:St)(E:Env)(w:World)(ex:Exit)(a':Act)(w':World):Prop:=
 ∃x σ' E',Q0 E' w' x ex∧Q x σ'∧cK gl σ' E' a' w'∧Ext gl.md (Own σ.hp E) E w (Own σ'.hp E') E' w'
def ai(P:Program)(gl:Ctx)(c:Code)(σ:St)(Q:jG→St→Prop):Prop:=
 ∀E a w,cK gl σ E a w→c.wpIn (Wd gl) 0 P (zo gl Q σ E w) a w
section
variable{P:Program} {gl:Ctx} {σ:St} {Q:jG→St→Prop}
theorem ai.mono{c:Code}{Q':jG→St→Prop}(h:ai P gl c σ Q)(hq:∀x σ',Q x σ'→Q' x σ'):ai P gl c σ Q':=
 fun E a w hg=>wpIn_mono (h E a w hg) (fun _ _ _ ⟨x,σ',E',h1,h2,h3⟩=>⟨x,σ',E',h1,hq _ _ h2,h3⟩)
theorem ai.skip(h:Q .normal σ):ai P gl .skip σ Q:=fun E _a _w hg=>wpIn_skip ⟨.normal,σ,E,trivial,h,hg,Ext.refl _ _ _⟩
theorem ai.exit{i:Nat}(h:Q (.exit i) σ):ai P gl (.exit i) σ Q:=fun E _a _w hg=>wpIn_exit ⟨.exit i,σ,E,rfl,h,hg,Ext.refl _ _ _⟩
theorem ai.ret(h:Q .ret σ):ai P gl .ret σ Q:=fun E _a _w hg=>wpIn_ret ⟨.ret,σ,E,trivial,h,hg,Ext.refl _ _ _⟩
def zp(P:Program)(gl:Ctx)(y:Code)(Q:jG→St→Prop):jG→St→Prop
 | .normal,σ=>ai P gl y σ Q
 |x,σ=>Q x σ
theorem ai.seq{x y:Code}(h:ai P gl x σ (zp P gl y Q)):ai P gl (.seq x y) σ Q:=by
 intro E a w hg
 refine wpIn_seq (wpIn_mono (h E a w hg) ?_)
 rintro ex a1 w1 ⟨x1,σ1,E1,h1,h2,h3,h4⟩
 cases ex with
 |
  normal=>
  cases x1 with
  |
   normal=>
   refine wpIn_mono (h2 E1 a1 w1 h3) ?_
   rintro e2 a2 w2 ⟨x2,σ2,E2,k1,k2,k3,k4⟩
   exact⟨x2,σ2,E2,k1,k2,k3,h4.trans k4⟩
  |_=>exact h1.elim
 |
  _=>
  cases x1 with
  |normal=>exact h1.elim
  |_=>exact⟨_,σ1,E1,h1,h2,h3,h4⟩
theorem ai.cond{c:Operand}{x y:Code}{b:Bool}(hc:bD gl σ.tm c= .val .bool b)(ht:b=true→ai P gl x σ Q)(hf:b=false→ai P gl y σ Q):ai P gl (.cond c x y) σ Q:=by
 intro E a w hg
 have hv:=mZ hg c
 rw[hc] at hv
 exact wpIn_cond_split (RV.cI hv) (fun h=>ht h E a w hg) (fun h=>hf h E a w hg)
def iK(id:Nat)(Q:jG→St→Prop):jG→St→Prop
 | .exit i,σ=>if i=id then Q .normal σ else Q (.exit i) σ
 |x,σ=>Q x σ
theorem ai.block{id:Nat}{c:Code}(h:ai P gl c σ (iK id Q)):ai P gl (.block id c) σ Q:=by
 intro E a w hg
 refine wpIn_block (wpIn_mono (h E a w hg) ?_)
 rintro ex a1 w1 ⟨x1,σ1,E1,h1,h2,h3,h4⟩
 cases ex with
 |
  exit i=>
  cases x1 with
  |
   exit j=>
   have e:j=i:=h1
   subst e
   simp only[iK] at h2
   simp only[Exit.inBlock]
   split
   ·rename_i e;rw[if_pos e] at h2;exact⟨.normal,σ1,E1,trivial,h2,h3,h4⟩
   ·rename_i e;rw[if_neg e] at h2;exact⟨.exit j,σ1,E1,rfl,h2,h3,h4⟩
  |_=>exact h1.elim
 |_=>cases x1<;>first|exact h1.elim|exact⟨_,σ1,E1,h1,h2,h3,h4⟩
def MM(R:Nat→St→Prop)(n:Nat)(Q:jG→St→Prop):jG→St→Prop
 | .normal,σ=>∃m,m<n∧R m σ
 |x,σ=>Q x σ
theorem ai.loop{c:Code}(R:Nat→St→Prop)(hR:∀n σ,R n σ→ai P gl c σ (MM R n Q)){n:Nat}(h0:R n σ):ai P gl (.loop c) σ Q:=by
 intro E0 a0 w0 hg0 b k cs hro hb hr0
 have key:∀n σ1 E1 a1 w1,R n σ1→cK gl σ1 E1 a1 w1→Ext gl.md (Own σ.hp E0) E0 w0 (Own σ1.hp E1) E1 w1→
  ∃e a' w',zo gl Q σ E0 w0 e a' w'∧ArrivesIn (Machine.fenced P (Wd gl)) P (lone (b.atR a1 (.code c::.inLoop c::k)) cs w1) b k cs e a' w':=by
  intro n
  induction n using Nat.strongRecOn with
  |
   _ n ih=>
   intro σ1 E1 a1 w1 hr hg hx
   obtain⟨e,a2,w2,⟨x,σ2,E2,h1,h2,h3,h4⟩,SA⟩:=hR n σ1 hr E1 a1 w1 hg b (.inLoop c::k) cs hro hb hr0
   cases e with
   |
    normal=>
    cases x with
    |
     normal=>
     obtain⟨m,hm,hr2⟩:=h2
     obtain⟨e₂,a₂,w₂,hq₂,harr₂⟩:=ih m hm σ2 E2 a2 w2 hr2 h3 (hx.trans h4)
     exact⟨e₂,a₂,w₂,hq₂,.of_steps (StepsIn.trans SA (.one (fenced_calm hb hr0 rfl) stepR_inLoop)) harr₂⟩
    |_=>exact h1.elim
   |exit id=>exact⟨_,a2,w2,⟨x,σ2,E2,h1,by cases x<;>first|exact h1.elim|exact h2,h3,hx.trans h4⟩,.pass (x:=.inLoop c) rfl (fun _ _=>.inl (by simp)) SA⟩
   |goto l=>cases x<;>exact h1.elim
   |ret=>exact⟨_,a2,w2,⟨x,σ2,E2,h1,by cases x<;>first|exact h1.elim|exact h2,h3,hx.trans h4⟩,.pass (x:=.inLoop c) rfl (fun _ _=>.inl (by simp)) SA⟩
   |panic ch=>exact⟨_,a2,w2,⟨x,σ2,E2,h1,by cases x<;>first|exact h1.elim|exact h2,h3,hx.trans h4⟩,.pass (x:=.inLoop c) rfl (fun _ _=>.inl (by simp)) SA⟩
   |outgrown=>cases x<;>exact h1.elim
 obtain⟨e,a',w',hq,SA⟩:=key n σ E0 a0 w0 h0 hg0 (Ext.refl _ _ _)
 exact⟨e,a',w',hq,.of_steps (.one (fenced_calm hb hr0 rfl) stepR_loop) SA⟩
theorem ai.O3{G:bH}(T:aW P G){id:Nat}{ops:Array Oper}(rs:List CR)(gs:List Bool)(zs:List (Nat×Nat×Ty))(vcs:List Prop)(h:qJ P G gl ops rs gs zs σ=some vcs)(hv:dT vcs)(hq:Q .normal (j9 P G gl ops rs gs zs σ)):ai P gl (.region id ops false) σ Q:=by
 unfold qJ at h
 unfold j9 at hq
 split at h
 ·rename_i fs vcs' σ' hr
  cases h
  obtain⟨hc,hn⟩:=nR T hr hv
  rw[hr] at hq
  exact fun E _ _ hg=>yJ hn hc hg (fun E' _ _ h1 h2=>⟨.normal,σ',E',trivial,hq,h1,h2⟩)
 ·cases h
theorem ai.MN{G:bH}(T:aW P G){id:Nat}{ops:Array Oper}(rs:List CR)(gs:List Bool)(zs:List (Nat×Nat×Ty))(vcs:List Prop)(h:kx P G gl ops rs gs zs σ=some vcs)(hv:dT vcs)(hq:Q .normal (j9 P G gl ops rs gs zs σ)):ai P gl (.region id ops true) σ Q:=by
 unfold kx at h
 unfold j9 at hq
 split at h
 ·rename_i fs vcs' σ' hr
  split at h
  ·rename_i R9
   cases h
   simp only[Bool.and_eq_true] at R9
   obtain⟨hc,hn⟩:=nR T hr hv
   rw[hr] at hq
   exact fun E _ _ hg=>yM T R9.1 R9.2 hc hg (fun E' _ _ h1 h2=>⟨.normal,σ',E',trivial,hq,h1,h2⟩)
  ·cases h
 ·cases h
theorem ai.MO{G:bH}(T:aW P G){id:Nat}{ops:Array Oper}{y:Code}(rs:List CR)(gs:List Bool)(zs:List (Nat×Nat×Ty))(vcs:List Prop)(h:qJ P G gl ops rs gs zs σ=some vcs)(hv:dT vcs)(hq:ai P gl y (j9 P G gl ops rs gs zs σ) Q):ai P gl (.seq (.region id ops false) y) σ Q:=
 ai.seq (ai.O3 T rs gs zs vcs h hv hq)
theorem ai.MP{G:bH}(T:aW P G){id:Nat}{ops:Array Oper}{y:Code}(rs:List CR)(gs:List Bool)(zs:List (Nat×Nat×Ty))(vcs:List Prop)(h:kx P G gl ops rs gs zs σ=some vcs)(hv:dT vcs)(hq:ai P gl y (j9 P G gl ops rs gs zs σ) Q):ai P gl (.seq (.region id ops true) y) σ Q:=
 ai.seq (ai.MN T rs gs zs vcs h hv hq)
def jH(G:bH)(σ:St):List ResultVar→Option (List AV)
 |[]=>some []
 |
  .tmp t::l=>match σ.tm[t]?,jH G σ l with
  |some x,some xs=>if x.plain then some (x::xs) else none
  |_,_=>none
 |
  .cell t ty::l=>match σ.tm[t]?,jH G σ l with
  |
   some x,some xs=>match dJ G (fun b=>(σ.hp[b]?).join) ty x with
   |some y=>if y.plain then some (y::xs) else none
   |none=>none
  |_,_=>none
def AV.ofList:List AV→AV
 |[]=>.nil
 |x::l=>.cons x (AV.ofList l)
def wy(G:bH)(rs:List ResultVar)(σ:St):Option AV:=
 match jH G σ rs with
 |some [x]=>some x
 |some l=>some (.bU (AV.ofList l))
 |none=>none
def prune:List (Option aj)→List Bool→List (Option aj)
 |x::l,true::m=>x::prune l m
 |_::l,false::m=>none::prune l m
 |_,[]=>[]
 |[],_=>[]
theorem jd{b:Nat}{k:aj}:∀{l:List (Option aj)}{m:List Bool},(prune l m)[b]? =some (some k)→l[b]? =some (some k):=by
 intro l
 induction l generalizing b with
 |nil=>intro m h;cases m<;>simp[prune] at h
 |
  cons x l ih=>
  intro m h
  cases m with
  |nil=>simp[prune] at h
  |
   cons y m=>
   cases b with
   |zero=>cases y<;>simp[prune] at h;simpa using h
   |succ b=>cases y<;>simp[prune] at h<;>simpa using ih h
theorem HW.prune{E:Env}{w:World}{hp:List (Option aj)}(h:HW gl E w hp)(m:List Bool):HW gl E w (Abs.prune hp m) where
 bh:=fun b k hb=>h.bh b k (jd hb)
 sep:=fun b b' k k' g h1 h2=>h.sep b b' k k' g (jd h1) (jd h2)
 fo:=fun b k g h1=>h.fo b k g (jd h1)
 slt:=h.slt
 gl:=h.gl
theorem Ext.prune{O:Nat→Prop}{E E':Env}{w w':World}{hp:List (Option aj)}(h:Ext gl.md O E w (Own hp E') E' w')(m:List Bool):Ext gl.md O E w (Own (Abs.prune hp m) E') E' w':=
 {h with own:=fun g ⟨b,k,hb,hg⟩=>h.own g ⟨b,k,jd hb,hg⟩}
def lr(tmps:Array Value):ResultVar→Sem Value
 | .tmp t=>pure (tmps.getD t undef)
 | .cell c t=>do loadVar t (←asAddr (tmps.getD c undef))
theorem lY(fn:Func)(tmps:Array Value):results fn tmps=(do
 let vs ←fn.results.mapM (lr tmps)
 pure (if h:vs.size=1 then vs[0] else .tuple vs)):=by
 unfold results
 congr 2
theorem lZ{G:bH}(T:aW P G){E:Env}{a:Act}{w:World}(hg:cK gl σ E a w):∀{rs:List ResultVar}{xs:List AV},jH G σ rs=some xs→
 ∃vs:List Value,(rs.mapM (lr a.tmps)).run P w= .ok vs w∧RT E w (AV.ofList xs) vs∧vs.length=xs.length
 |[],xs,h=>by cases h;exact⟨[],by simp,rfl,rfl⟩
 |
  .tmp t::l,xs,h=>by
  unfold jH at h
  split at h
  ·rename_i x xs' hx hl
   split at h
   ·rename_i hp
    cases h
    obtain⟨vs,h1,h2,h3⟩:=lZ T hg hl
    have Sg:t<a.tmps.size:=by rw[hg.len];exact(List.getElem?_eq_some_iff.1 hx).1
    have hv:=hg.tm t _ hx a.tmps[t] (by simp[Sg])
    refine⟨a.tmps[t]::vs,?_,⟨RV.mq hp hv,h2⟩,by simp[h3]⟩
    simp only[List.mapM_cons,Sem.run_bind,lr,Sem.run_pure,Result.andThen_ok,h1]
    simp[Sg]
   ·cases h
  ·cases h
 |
  .cell t ty::l,xs,h=>by
  unfold jH at h
  split at h
  ·rename_i x xs' hx hl
   split at h
   ·rename_i y hy
    split at h
    ·rename_i hp
     cases h
     obtain⟨vs,h1,h2,h3⟩:=lZ T hg hl
     have Sg:t<a.tmps.size:=by rw[hg.len];exact(List.getElem?_eq_some_iff.1 hx).1
     have hv:=hg.tm t _ hx a.tmps[t] (by simp[Sg])
     have hB:HB (fun b=>(σ.hp[b]?).join) σ.hp:=by
      intro b k hk
      cases hh:σ.hp[b]? with
      |none=>simp[hh] at hk
      |some z=>simp[hh] at hk;rw[hk]
     obtain⟨u,h4,h5⟩:=gS T hg.hw hB hv hy
     have h4':(do loadVar ty (←asAddr (a.tmps.getD t undef)):Sem Value).run P w= .ok u w:=by
      have e:a.tmps.getD t undef=a.tmps[t]:=by simp[Sg]
      rw[e]
      simp only[Instr.loadAt,Sem.run_bind] at h4 ⊢
      cases hq:a.tmps[t] with
      |
       pointer p=>
       cases p with
       |some ad=>rw[hq] at h4;simpa[Instr.sureAddr,asAddr] using h4
       |none=>rw[hq] at h4;simp[Instr.sureAddr] at h4
      |_=>rw[hq] at h4;simp[Instr.sureAddr] at h4
     refine⟨u::vs,?_,⟨RV.mq hp h5,h2⟩,by simp[h3]⟩
     simp only[List.mapM_cons,Sem.run_bind,lr]
     simp only[Sem.run_bind] at h4'
     rw[h4']
     simp only[Result.andThen_ok,h1,Sem.run_pure]
    ·cases h
   ·cases h
  ·cases h
end
end Go.Abs
