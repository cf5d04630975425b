/- Deriving answers; what is announced. No condition. -/
import Derived.Test.YtgdcjlldafmomaaGreatP1
import Derived.Test.YtgdcjlldafmomaaGreatUL
import Derived.Test.YtgdcjlldafmomaaGreatFD
import Derived.Test.YtgdcjlldafmomaaGreatS2
noncomputable section
namespace Go.Proofs.YtgdcjlldafmomaaGreat
open Go.Ax
theorem kindB_unit{t:gI}{n:Int}(h:f177 t n=some true):t.2.2.2.2.1= -1:=by
 unfold f177 at h
 obtain⟨v,hv,h⟩:=bind_some h
 cases h
 split at hv
 ·split at hv
  ·split at hv
   ·rename_i e;exact of_decide_eq_true e
   ·cases hv
  ·cases hv
 ·cases hv
theorem kindC_unit{t:gI}{n:Int}(h:f178 t n=some true):t.2.2.2.2.1= -1:=by
 unfold f178 at h
 obtain⟨v,hv,h⟩:=bind_some h
 cases h
 split at hv
 ·split at hv
  ·split at hv
   ·rename_i e;exact of_decide_eq_true e
   ·cases hv
  ·cases hv
 ·cases hv
theorem kindD_unit{t:gI}{n:Int}(h:f179 t n=some true):t.2.2.2.2.1= -1:=by
 unfold f179 at h
 obtain⟨v,hv,h⟩:=bind_some h
 cases h
 split at hv
 ·split at hv
  ·split at hv
   ·rename_i e;exact of_decide_eq_true e
   ·cases hv
  ·cases hv
 ·cases hv
theorem idB{x:Zk}{b:Bool}(h:(Option.bind x fun y=>some y)=some b):x=some b:=by
 cases x with
 |none=>cases h
 |some a=>exact h
theorem typeOK_lt{c:cT}{t:gI}(h:f79 c t=some true):t.2.2.2.2.1<(c.1.2.1.length:Int):=by
 have neg:t.2.2.2.2.1= -1→t.2.2.2.2.1<(c.1.2.1.length:Int):=fun e=>by omega
 by_cases e1:t.1=1
 ·exact(typeOK_unit h e1).2
 ·unfold f79 at h
  by_cases h1:t.1<1
  ·rw[if_pos (decide_eq_true h1)] at h;cases h
  ·by_cases h2:(4:Int)<t.1
   ·rw[if_neg (by simpa using h1),decide_eq_true h2] at h;cases h
   ·rw[if_neg (by simpa using h1),decide_eq_false h2,Option.bind_some,if_neg (by decide),aG] at h
    dsimp only at h
    rw[if_pos (by omega),if_pos (by omega),if_neg (by omega),if_neg e1] at h
    by_cases e2:t.1=2
    ·rw[if_pos e2] at h;exact neg (kindB_unit (idB h))
    ·rw[if_neg e2] at h
     by_cases e3:t.1=3
     ·rw[if_pos e3] at h;exact neg (kindC_unit (idB h))
     ·rw[if_neg e3,if_pos (by omega)] at h;exact neg (kindD_unit (idB h))
theorem usable_ans(c:cT)(hN:NB c.1)(r:lN):∃b y,f220 c r=some (b,y)∧(b=true→y.2.2.2.2.1<(c.1.2.1.length:Int)):=by
 unfold f220
 rcases typeOf_eq c r.2.2.1 r.2.2.2.1 with⟨hi,e⟩|⟨_,y,e⟩
 ·rw[e,Option.bind_some]
  dsimp only
  rw[if_neg (by decide)]
  have hm:=hi.mem
  obtain⟨q,hq⟩:=typeOK_ans c (nth du (flds c.1 r.2.2.1) r.2.2.2.1).2.1 ((hN _ hm.1).2 _ hm.2)
  rw[hq,Option.bind_some]
  cases q with
  |false=>exact⟨false,_,rfl,fun h=>(by cases h)⟩
  |
   true=>
   rw[if_neg (by decide)]
   have hu:=typeOK_lt hq
   by_cases h0:0≤(nth du (flds c.1 r.2.2.1) r.2.2.2.1).2.1.2.2.2.2.1
   ·rw[if_pos (decide_eq_true h0),if_pos h0,if_pos hu]
    obtain⟨z,hz⟩:=unitOK_ans c (nth aO c.1.2.1 (nth du (flds c.1 r.2.2.1) r.2.2.2.1).2.1.2.2.2.2.1)
    rw[hz,Option.bind_some]
    cases z with
    |false=>exact⟨false,_,rfl,fun h=>(by cases h)⟩
    |true=>exact⟨true,_,rfl,fun _=>hu⟩
   ·rw[if_neg (show¬decide ((0:Int)≤(nth du (flds c.1 r.2.2.1) r.2.2.2.1).2.1.2.2.2.2.1)=true by simpa using h0)]
    exact⟨true,_,rfl,fun _=>hu⟩
 ·rw[e,Option.bind_some]
  exact⟨false,_,rfl,fun h=>(by cases h)⟩
theorem base_ans(s:cK)(hN:NB s)(r:lN)(n:Int):∃p,f217 s r n=some p:=by
 unfold f217
 obtain⟨b,y,e,hu⟩:=usable_ans (s,()) hN r
 rw[e,Option.bind_some]
 dsimp only
 cases b with
 |false=>exact⟨_,rfl⟩
 |
  true=>
  rw[if_neg (by decide)]
  by_cases h1:n<0
  ·rw[if_pos (decide_eq_true h1)];exact⟨_,rfl⟩
  ·rw[if_neg (show¬decide (n<(0:Int))=true by simpa using h1)]
   by_cases h2:(1048576:Int)<n
   ·rw[decide_eq_true h2];exact⟨_,rfl⟩
   ·rw[decide_eq_false h2,Option.bind_some,if_neg (by decide),aG]
    dsimp only
    by_cases h0:0≤y.2.2.2.2.1
    ·rw[if_pos (decide_eq_true h0),if_pos h0,if_pos (hu rfl)];exact⟨_,rfl⟩
    ·rw[if_neg (show¬decide ((0:Int)≤y.2.2.2.2.1)=true by simpa using h0)];exact⟨_,rfl⟩
theorem compare_ans(a b c:Int):∃r,f218 a b c=some r:=by
 unfold f218
 repeat' (first|exact⟨_,rfl⟩|split)
def FV(s:cK)(PS:Zf)(x:nD)(a:Int):Prop:=x.2.2.2.1.length=(flds s a).length∧∀v∈x.2.2.2.1,v∈PS
structure LI(s:cK)(PS:Zf)(u:cF)(l:ZB):Prop where
 len:l.length≤u.2.2.1.length
 ok:∀x:Int,0≤x→x<(l.length:Int)→FV s PS (nth eW l x) (nth aK u.2.2.1 x).2.2.1
theorem LI.nil(s:cK)(PS:Zf)(u:cF):LI s PS u []:=⟨Nat.zero_le _,fun x h0 h1=>by rw[List.length_nil] at h1;omega⟩
theorem LI.push{s:cK}{PS:Zf}{u:cF}{l:ZB}(h:LI s PS u l){x:nD}(hl:l.length<u.2.2.1.length)(hx:FV s PS x (nth aK u.2.2.1 (l.length:Int)).2.2.1):LI s PS u (l++[x]):=by
 refine⟨by rw[List.length_append,List.length_singleton];omega,fun j h0 h1=>?_⟩
 rw[List.length_append,List.length_singleton] at h1
 have e:j=(j.toNat:Int):=by omega
 by_cases hj:j<(l.length:Int)
 ·have h2:=h.ok j h0 hj
  rw[e,db (t:=eW) (by rw[List.length_append];omega),List.getElem_append_left (by omega)]
  rw[e,db (t:=eW) (by omega)] at h2
  exact h2
 ·have ej:j.toNat=l.length:=by omega
  have ej':j=(l.length:Int):=by omega
  rw[ej',db (t:=eW) (by rw[List.length_append,List.length_singleton];omega),List.getElem_append_right (Nat.le_refl _)]
  simp only[Nat.sub_self,List.getElem_singleton]
  exact hx
abbrev cR(s:cK)(u:cF):ei:=((s,()),(u,()))
theorem values_at{s:cK}{PS:Zf}{u:cF}{l:ZB}(hL:LI s PS u l){t:fm}{n:Int}(hn:n≤(l.length:Int))(h:InT (cR s u) t n):
 0≤t.2.2.1∧t.2.2.1<(l.length:Int)∧0≤t.2.2.2.1∧t.2.2.2.1<((nth eW l t.2.2.1).2.2.2.1.length:Int)∧nth (.int .i64) (nth eW l t.2.2.1).2.2.2.1 t.2.2.2.1∈PS:=by
 have hv:t.2.2.1<(l.length:Int):=Int.lt_of_lt_of_le h.v1 hn
 obtain⟨h1,h2⟩:=hL.ok _ h.v0 hv
 have hb:=h.f.b1
 have hb:t.2.2.2.1<((nth eW l t.2.2.1).2.2.2.1.length:Int):=by rw[h1];exact hb
 exact⟨h.v0,hv,h.f.b0,hb,h2 _ (da (t:=.int .i64) h.f.b0 hb)⟩
theorem dval{s:cK}{PS:Zf}{u:cF}{l:ZB}(hL:LI s PS u l)(hl:l.length=u.2.2.1.length){t:fm}(ht:TOK (cR s u) t):
 ∃v,f175 t l=some v∧(v∈PS∨t.2.2.1= -1∧v=t.2.2.2.2.1):=by
 unfold f175
 by_cases h:t.2.2.1= -1
 ·rw[if_pos (decide_eq_true h)];exact⟨_,rfl,Or.inr ⟨h,rfl⟩⟩
 ·rcases ht with hi|hi
  ·obtain⟨a1,a2,a3,a4,a5⟩:=values_at hL (by rw[hl];exact Int.le_refl _) hi
   rw[if_neg (show¬decide (t.2.2.1=(-1:Int))=true by simpa using h),if_pos a1,if_pos a2,if_pos a3,if_pos a4]
   exact⟨_,rfl,Or.inl a5⟩
  ·exact absurd hi h
theorem holdT_eq{PS:Zf}{u:cF}{l:ZB}(w:bL)(hN:NB w.1.1)(hL:LI w.1.1 PS u l)(hl:l.length=u.2.2.1.length){t:fm}(ht:TOK (cR w.1.1 u) t)(h1:t.2.2.1≠-1) ix d k b m z fo se rs:
 ∃n,mO t u w ix d k b m z l fo se rs=some (n,u,w,ix,d,k,b,m,z,l,fo,se,rs):=by
 unfold mO
 rcases ht with hi|hi
 ·obtain⟨v,hv,_⟩:=dval hL hl (Or.inl hi)
  rw[if_pos hi.v0,if_pos (show t.2.2.1<(u.2.2.1.length:Int) from hi.v1),hv,Option.bind_some]
  obtain⟨p,hp⟩:=base_ans w.1.1 hN ([],([],((nth aK u.2.2.1 t.2.2.1).2.2.1,(t.2.2.2.1,())))) v
  rw[hp]
  exact⟨_,rfl⟩
 ·exact absurd hi h1
theorem hold_eq{PS:Zf}{u:cF}{l:ZB}(w:bL)(hN:NB w.1.1)(hw:u.2.2.2.1.length≤aC)(hR:RK (cR w.1.1 u))(hL:LI w.1.1 PS u l)(hl:l.length=u.2.2.1.length) ix d k b m z fo se rs:
 W (pJ u w ix d k b m z l fo se rs) fun r=>∃y,r=(y,w,ix,d,k,b,m,z,l,fo,se,rs):=by
 have hB:=hB
 unfold pJ
 refine bQ.2 (W.ct (ck (L:=ru) rfl (CT (fun d'=>d'=(w,ix,d,k,b,m,z,l,fo,se,rs)) fun r=>∃y,r=(y,w,ix,d,k,b,m,z,l,fo,se,rs)) u.2.2.2.1.length (fun c(_:Unit)=>(u.2.2.2.1,(u.2.2.2.1.length:Int),(c:Int),w,ix,d,k,b,m,z,l,fo,se,rs,u)) (fun _ _=>True) ?step ?stop _ 0 () (by omega) (by omega) trivial) (fun d' h=>?_) fun r h=>?_)
 case step=>
  intro rec c _ hc _ kk
  dsimp only
  have hm:=hR.wh _ (da (t:=aM) (l:=u.2.2.2.1) (Int.natCast_nonneg c) (show(c:Int)<(u.2.2.2.1.length:Int) by omega))
  rw[if_pos (decide_eq_true (by omega)),if_pos (Int.natCast_nonneg c),if_pos (show(c:Int)<(u.2.2.2.1.length:Int) by omega)]
  have hw2:aV ((c:Int)+(1:Int))=((c+1:Nat):Int):=aJ (by omega)
  have kk:W (rec (u.2.2.2.1,(u.2.2.2.1.length:Int),aV ((c:Int)+(1:Int)),w,ix,d,k,b,m,z,l,fo,se,rs,u)) (CT (fun d'=>d'=(w,ix,d,k,b,m,z,l,fo,se,rs)) fun r=>∃y,r=(y,w,ix,d,k,b,m,z,l,fo,se,rs)):=by rw[hw2];exact kk () trivial
  have hm:TOK (cR w.1.1 u) (nth aM u.2.2.2.1 (c:Int)).2.1∧TOK (cR w.1.1 u) (nth aM u.2.2.2.1 (c:Int)).2.2.1:=hm
  generalize nth aM u.2.2.2.1 (c:Int)=a at hm
  obtain⟨v1,e1,_⟩:=dval hL hl hm.1
  obtain⟨v2,e2,_⟩:=dval hL hl hm.2
  rw[e1,Option.bind_some,e2,Option.bind_some]
  have fin:∀p q:Int,W (Option.bind (f218 a.1 p q) fun y10=>if(!y10)=true then(bP (some (false,w,ix,d,k,b,m,z,l,fo,se,rs))) else rec (u.2.2.2.1,(u.2.2.2.1.length:Int),aV ((c:Int)+(1:Int)),w,ix,d,k,b,m,z,l,fo,se,rs,u)) (CT (fun d'=>d'=(w,ix,d,k,b,m,z,l,fo,se,rs)) fun r=>∃y,r=(y,w,ix,d,k,b,m,z,l,fo,se,rs)):=fun p q=>by
   refine W.bt (compare_ans a.1 p q) fun y=>?_
   cases y with
   |false=>exact⟨_,rfl,_,rfl⟩
   |true=>exact kk
  by_cases n1:a.2.1.2.2.1= -1
  ·rw[if_neg (show¬(!decide (a.2.1.2.2.1=(-1:Int)))=true by simpa using n1)]
   exact fin v1 v2
  ·rw[if_pos (show(!decide (a.2.1.2.2.1=(-1:Int)))=true by simpa using n1),Option.bind_some]
   by_cases n2:a.2.2.1.2.2.1= -1
   ·rw[if_neg (show¬(!decide (a.2.2.1.2.2.1=(-1:Int)))=true by simpa using n2)]
    exact fin v1 v2
   ·rw[if_pos (show(!decide (a.2.2.1.2.2.1=(-1:Int)))=true by simpa using n2)]
    obtain⟨p,ep⟩:=holdT_eq w hN hL hl hm.1 n1 ix d k b m z fo se rs
    obtain⟨q,eq⟩:=holdT_eq w hN hL hl hm.2 n2 ix d k b m z fo se rs
    rw[ep,Option.bind_some]
    dsimp only
    rw[eq]
    exact fin p q
 case stop=>
  intro rec _ _
  dsimp only
  rw[if_neg (by simp only[decide_eq_true_eq];omega)]
  exact⟨_,rfl,rfl⟩
 ·subst h
  exact⟨_,rfl,_,rfl⟩
 ·exact h
theorem build_eq{PS:Zf}{u:cF}{l:ZB}(w:bL)(hw:u.2.2.2.2.1.length≤aC)(hR:RK (cR w.1.1 u))(hL:LI w.1.1 PS u l)(hl:l.length=u.2.2.1.length)(hf:1≤(flds w.1.1 u.2.1).length)(hf2:(flds w.1.1 u.2.1).length≤1000)(p:Int)(hp:p∈PS)(h0:(0:Int)∈PS)(hc:∀t∈u.2.2.2.2.1,t.2.2.1.2.2.2.2.1∈PS) ix d k b m z fo se rs:
 W (pI u p l w ix d k b m z fo se rs) fun r=>∃x,r=(w,ix,d,k,b,m,z,fo,se,rs,x)∧FV w.1.1 PS x u.2.1:=by
 have hB:=hB
 unfold pI
 have e:(nth bB w.1.1.2.2.1 u.2.1).2.2.2.2.1=flds w.1.1 u.2.1:=rfl
 rw[if_pos hR.h0,if_pos hR.h1,e,if_pos (Int.natCast_nonneg _),if_pos (Int.le_refl _),if_pos (by omega),if_pos (by rw[List.length_replicate,Int.toNat_natCast];omega)]
 refine bQ.2 (W.ct (ck (L:=rm) rfl (CT (fun d'=>∃v,d'=(p,w,ix,d,k,b,m,z,fo,se,rs,u,(0:Int),(0:Int),(0:Int),v)∧v.length=(flds w.1.1 u.2.1).length∧∀x∈v,x∈PS) fun _=>False) u.2.2.2.2.1.length (fun c(v:Zf)=>(p,l,u.2.2.2.2.1,(u.2.2.2.2.1.length:Int),(c:Int),w,ix,d,k,b,m,z,fo,se,rs,u,(0:Int),(0:Int),(0:Int),v)) (fun _ v=>v.length=(flds w.1.1 u.2.1).length∧∀x∈v,x∈PS) ?step ?stop _ 0 (List.set (List.replicate (Int.toNat ((flds w.1.1 u.2.1).length:Int)) (0:Int)) (Int.toNat (0:Int)) p) (by omega) (by omega) ⟨by rw[List.length_set,List.length_replicate,Int.toNat_natCast],fun x hx=>?_⟩) (fun d' h=>?_) fun r h=>?_)
 case step=>
  rintro rec c v hc' ⟨hv,hP⟩ kk
  dsimp only
  have hm:=da (t:=aW) (l:=u.2.2.2.2.1) (Int.natCast_nonneg c) (show(c:Int)<(u.2.2.2.2.1.length:Int) by omega)
  have hw2:aV ((c:Int)+(1:Int))=((c+1:Nat):Int):=aJ (by omega)
  rw[if_pos (decide_eq_true (by omega)),if_pos (Int.natCast_nonneg c),if_pos (show(c:Int)<(u.2.2.2.2.1.length:Int) by omega)]
  generalize nth aW u.2.2.2.2.1 (c:Int)=t at hm
  have hc2:=hc _ hm
  obtain⟨hi,ht⟩:=hR.st _ hm
  obtain⟨y,ey,hy⟩:=dval hL hl ht
  have hb:t.2.1<(v.length:Int):=by rw[hv];exact hi.b1
  rw[ey,Option.bind_some,if_pos hi.b0,if_pos hb]
  rw[hw2]
  refine kk _ ⟨by rw[List.length_set];exact hv,fun x hx=>?_⟩
  rcases List.mem_or_eq_of_mem_set hx with h|rfl
  ·exact hP _ h
  ·rcases hy with h|⟨_,rfl⟩
   ·exact h
   ·exact hc2
 case stop=>
  rintro rec v ⟨hv,hP⟩
  dsimp only
  rw[if_neg (by simp only[decide_eq_true_eq];omega)]
  exact⟨_,rfl,v,rfl,hv,hP⟩
 ·rcases List.mem_or_eq_of_mem_set hx with h|rfl
  ·rw[List.mem_replicate] at h
   rw[h.2];exact h0
  ·exact hp
 ·obtain⟨v,rfl,hv,hP⟩:=h
  exact⟨_,rfl,_,rfl,hv,hP⟩
 ·exact h.elim
theorem fold_mem(day:Int){L:Zl}:∀(l:Zl)(s:ef×Bool),(∀f∈l,f∈L)→(s.2=true→s.1∈L)→((l.foldl (ku day) s).2=true→(l.foldl (ku day) s).1∈L)
 |[],s,_,hs=>hs
 |
  f::l,s,hl,hs=>by
  rw[List.foldl_cons]
  refine fold_mem day l _ (fun x hx=>hl x (List.mem_cons_of_mem _ hx)) ?_
  unfold ku
  split
  ·exact fun _=>hl f (List.mem_cons_self ..)
  ·exact hs
theorem atF_mem{l:Zl}{k:fQ}{day known:Int}(h:(Lc l k day known).2=true):∃f∈l,f.2.1=(Lc l k day known).1:=by
 have hm:=fold_mem day (L:=l) (l.filter (fY k known)) (zF,false) (fun x hx=>(List.mem_filter.1 hx).1) (fun h=>by cases h)
 have e:(l.filter (fY k known)).foldl (ku day) (zF,false)=ju k day known l (zF,false):=rfl
 rw[e] at hm
 unfold Lc at h ⊢
 dsimp only at h ⊢
 split at h
 ·rename_i hc
  rw[if_pos hc]
  exact⟨_,hm hc.1,rfl⟩
 ·cases h
theorem factsAt_eq(l:Zl)(k:fQ)(day known:Int)(hl:l.length≤aC):∃v b,zt l k day known=some (v,b)∧(b=true→∃f∈l,f.2.1=v):=by
 unfold zt
 rw[if_pos hl]
 exact⟨_,_,rfl,atF_mem⟩
theorem recorded_eq(s:cK)(hr:s.2.2.2.1.length≤aC)(a:Int):∃b,f49 s a=some b∧(b=true→0≤a∧a<(s.2.2.1.length:Int)∧2≤(flds s a).length):=by
 have hB:=hB
 have no:∀y:Zk,y=some false→∃r,y=some r∧(r=true→0≤a∧a<(s.2.2.1.length:Int)∧2≤(flds s a).length):=fun y hy=>⟨false,hy,fun h=>(by cases h)⟩
 unfold f49
 by_cases h0:a<0
 ·rw[if_pos (decide_eq_true h0)];exact no _ rfl
 ·rw[if_neg (show¬decide (a<(0:Int))=true by simpa using h0)]
  by_cases h1:(s.2.2.1.length:Int)≤a
  ·rw[if_pos (decide_eq_true h1)];exact no _ rfl
  ·rw[if_neg (show¬decide ((s.2.2.1.length:Int)≤a)=true by simpa using h1),if_pos (Int.not_lt.1 h0),if_pos (Int.not_le.1 h1)]
   have e:(nth bB s.2.2.1 a).2.2.2.2.1=flds s a:=rfl
   rw[e]
   by_cases h2:((flds s a).length:Int)<2
   ·rw[decide_eq_true h2];exact no _ rfl
   ·rw[decide_eq_false h2,Option.bind_some,if_neg (by decide),aG]
    dsimp only
    have yes:∀y:Zk,(∃z,y=some z)→∃z,y=some z∧(z=true→0≤a∧a<(s.2.2.1.length:Int)∧2≤(flds s a).length):=fun y ⟨z,hz⟩=>⟨z,hz,fun _=>⟨Int.not_lt.1 h0,Int.not_le.1 h1,by omega⟩⟩
    apply yes
    suffices hW:W (aE (U:=Int×Zn) (zl (Int.toNat (List.length s.2.2.2.1:Int)+1) (a,s.2.2.2.1,(List.length s.2.2.2.1:Int),(0:Int),([]:Zn))) (fun x=>some (!(bJ (.int .i64) .bool x.1 x.2)))) (fun _=>True) by
     obtain⟨r,hr,_⟩:=hW
     exact⟨r,hr⟩
    refine bQ.2 (W.ct (ck (L:=zl) rfl (CT (fun _=>True) fun _=>True) s.2.2.2.1.length (fun c(d:Zn)=>(a,s.2.2.2.1,(s.2.2.2.1.length:Int),(c:Int),d)) (fun c d=>d.length≤c) ?step ?stop _ 0 [] (by omega) (by omega) (Nat.le_refl _)) (fun d h=>⟨_,rfl,trivial⟩) fun r h=>trivial)
    case step=>
     intro rec c d hc hd kk
     dsimp only
     have hw2:aV ((c:Int)+(1:Int))=((c+1:Nat):Int):=aJ (by omega)
     rw[if_pos (decide_eq_true (by omega)),if_pos (Int.natCast_nonneg c),if_pos (show(c:Int)<(s.2.2.2.1.length:Int) by omega),if_pos (show d.length+1≤aC by omega),hw2]
     exact kk _ (Nat.le_trans (dA (kt:=.int .i64)) (by omega))
    case stop=>
     intro rec d hd
     dsimp only
     rw[if_neg (by simp only[decide_eq_true_eq];omega)]
     exact⟨_,rfl,trivial⟩
theorem recLook_eq{PS:Zf}(v:bL)(s:cK)(hN:NB s)(hl:v.2.1.length≤aC)(hPS:∀f∈v.2.1,f.2.1∈PS)(m a p i d k:Int)(rs:Zh)(hr:(rs.length+1)*40≤aC):
 ∃c b rs',sW m a p i d v k s rs=some (c,b,a,p,i,d,v,k,s,rs')∧rs'.length=rs.length+1∧(b=true→c∈PS):=by
 unfold sW f52
 rw[Option.bind_some,if_pos (by rw[List.length_singleton];exact hr)]
 obtain⟨x,b,e,hb⟩:=factsAt_eq v.2.1 (a,(p,(aV ((aV ((16:Int)*i))+m),()))) d k hl
 rw[e,Option.bind_some]
 dsimp only
 cases b with
 |false=>exact⟨_,false,_,rfl,by rw[List.length_append,List.length_singleton],fun h=>(by cases h)⟩
 |
  true=>
  obtain⟨f,hf,rfl⟩:=hb rfl
  obtain⟨q,hq⟩:=value_ans s hN a m f.2.1
  rw[if_pos rfl,hq]
  exact⟨_,q,_,rfl,by rw[List.length_append,List.length_singleton],fun _=>hPS f hf⟩
theorem recAt_eq{PS:Zf}(v:bL)(hN:NB v.1.1)(hR:v.1.1.2.2.2.1.length≤aC)(hF:∀a,0≤a→a<(v.1.1.2.2.1.length:Int)→(flds v.1.1 a).length≤1000)(hl:v.2.1.length≤aC)(hPS:∀f∈v.2.1,f.2.1∈PS)(a p i d k:Int)(hp:p∈PS):
 W (f33 v a p i d k) fun r=>r.2.2.length≤1000∧(r.1=true→FV v.1.1 PS r.2.1 a):=by
 have hB:=hB
 unfold f33
 obtain⟨b,e,hb⟩:=recorded_eq v.1.1 hR a
 rw[e,Option.bind_some]
 have no:∀(z:nD),(([]:Zh).length≤1000∧((false:Bool)=true→FV v.1.1 PS z a)):=fun z=>⟨Nat.zero_le _,fun h=>(by cases h)⟩
 cases b with
 |false=>exact⟨_,rfl,no _⟩
 |
  true=>
  obtain⟨a0,a1,a2⟩:=hb rfl
  rw[if_neg (by decide)]
  have hs:∃z,f50 p i=some z:=by
   unfold f50
   refine bindT ?_ fun v=>⟨v,rfl⟩
   repeat' (first|exact⟨_,rfl⟩|split)
  obtain⟨z,hz⟩:=hs
  rw[hz,Option.bind_some]
  cases z with
  |false=>exact⟨_,rfl,no _⟩
  |
   true=>
   rw[if_neg (by decide)]
   by_cases d0:d<0
   ·rw[if_pos (decide_eq_true d0)];exact⟨_,rfl,no _⟩
   ·rw[if_neg (show¬decide (d<(0:Int))=true by simpa using d0)]
    by_cases d1:(1024:Int)≤d
    ·rw[decide_eq_true d1];exact⟨_,rfl,no _⟩
    ·rw[decide_eq_false d1,Option.bind_some,if_neg (by decide),aG]
     dsimp only
     have hFa:=hF a a0 a1
     have e:(nth bB v.1.1.2.2.1 a).2.2.2.2.1=flds v.1.1 a:=rfl
     refine bQ.2 (W.ct (ck (L:=Cg) rfl (CT (fun r=>∃t s,r=(a,p,i,(0:Int),(0:Int),(0:Int),t,s)∧s.length≤1000∧t.length=(flds v.1.1 a).length∧∀x∈t,x∈PS) fun r=>r.1=false∧r.2.2.length≤1000) (flds v.1.1 a).length (fun c(u:Zf×Zh)=>((c:Int),v,a,p,i,d,k,(0:Int),(0:Int),(0:Int),v.1.1,u.1,u.2)) (fun c u=>u.1.length=c∧u.2.length≤c∧∀x∈u.1,x∈PS) ?step ?stop ff 1 ([p],[]) (by show _<18446744073709551616;omega) (by omega) ⟨rfl,Nat.zero_le _,fun x hx=>(by rw[List.mem_singleton.1 hx];exact hp)⟩) (fun r h=>?_) fun r h=>?_)
     case step=>
      rintro rec c ⟨t,s⟩ hc ⟨ht,hs,hP⟩ kk
      dsimp only at ht hs hP ⊢
      have hw2:aV ((c:Int)+(1:Int))=((c+1:Nat):Int):=aJ (by omega)
      rw[e,if_pos a0,if_pos a1,if_pos (decide_eq_true (by omega))]
      obtain⟨x,b,s',e2,hs',hx⟩:=recLook_eq v v.1.1 hN hl hPS (c:Int) a p i d k s (by omega)
      rw[e2,Option.bind_some]
      dsimp only
      cases b with
      |false=>exact⟨_,rfl,rfl,by show s'.length≤1000;omega⟩
      |
       true=>
       rw[if_neg (by decide),if_pos (show(t.length+List.length [x])*8≤aC by rw[List.length_singleton];omega),hw2]
       refine kk (t++[x],s') ⟨by rw[List.length_append,List.length_singleton,ht],by show s'.length≤c+1;omega,fun y hy=>?_⟩
       rcases List.mem_append.1 hy with h|h
       ·exact hP y h
       ·rw[List.mem_singleton.1 h];exact hx rfl
     case stop=>
      rintro rec ⟨t,s⟩ ⟨ht,hs,hP⟩
      dsimp only at ht hs hP ⊢
      rw[e,if_pos a0,if_pos a1,if_neg (by simp only[decide_eq_true_eq];omega)]
      exact⟨_,rfl,t,s,rfl,by omega,ht,hP⟩
     ·obtain⟨t,s,rfl,h1,h2,h3⟩:=h
      exact⟨_,rfl,h1,fun _=>⟨h2,h3⟩⟩
     ·exact⟨h.2,fun h'=>by rw[h.1] at h';cases h'⟩
theorem freshL_eq:∀(rs:Zh)(se:Zi)(acc:Zh),se.length+rs.length≤aC→(acc.length+rs.length)*40≤aC→∃s' a',kr rs se acc=some (s',a')∧s'.length≤se.length+rs.length∧a'.length≤acc.length+rs.length
 |[],se,acc,_,_=>⟨se,acc,rfl,Nat.le_refl _,Nat.le_refl _⟩
 |
  r::rs,se,acc,h1,h2=>by
  rw[List.length_cons] at h1 h2 ⊢
  unfold kr
  split
  ·obtain⟨s',a',e,q1,q2⟩:=freshL_eq rs se acc (by omega) (by omega)
   exact⟨s',a',e,by omega,by omega⟩
  ·have hm:(bz aZ r true se).length≤se.length+1:=dA
   rw[if_pos (by omega),if_pos (by omega)]
   obtain⟨s',a',e,q1,q2⟩:=freshL_eq rs (bz aZ r true se) (acc++[r]) (by omega) (by rw[List.length_append,List.length_singleton];omega)
   rw[List.length_append,List.length_singleton] at q2
   exact⟨s',a',e,by omega,by omega⟩
abbrev Pl:=fQ
abbrev FM:=Zj
abbrev SM:=Zi
abbrev DM:=Ze
def IX(PS:Zf)(ix:Ix):Prop:=∀key,(bJ bE (.slice 64 aR) key (bT ix)).length≤1000000∧∀f∈bJ bE (.slice 64 aR) key (bT ix),f.2.1∈PS
structure WX(w:bL)(lo:Zf)(PS:Zf)(U:List Pl)(ix:Ix):Prop where
 cg:CG w.1.1 lo
 zero:(0:Int)∈PS
 consts:∀u∈w.1.1.2.2.2.1,∀t∈u.2.2.2.2.1,t.2.2.1.2.2.2.2.1∈PS
 pl:∀a p i:Int,0≤a→a<(w.1.1.2.2.1.length:Int)→p∈PS→0≤i→i<4→(a,(p,(i,())))∈U
 len:U.length≤1000000
 fl:∀a,0≤a→a<(w.1.1.2.2.1.length:Int)→(flds w.1.1 a).length≤1000
 ix:IX PS ix
structure FI(s:cK)(PS:Zf)(U:List Pl)(fo:FM)(se:SM)(rs:Zh):Prop where
 nod:(fo.map (·.1)).Nodup
 sub:∀e∈fo,e.1∈U
 ok:∀e∈fo,e.2.2.2.2.1=true→FV s PS e.2.1 e.1.1
 se:se.length≤1000*fo.length
 rs:rs.length≤1000*fo.length
theorem nodup_sub{α:Type}:∀(l L:List α),l.Nodup→(∀x∈l,x∈L)→l.length≤L.length:=by
 classical
 intro l
 induction l with
 |nil=>intro L _ _;exact Nat.zero_le _
 |
  cons a l ih=>
  intro L hn hs
  have ha:=hs a (List.mem_cons_self ..)
  have h:=ih (L.erase a) (List.nodup_cons.1 hn).2 fun x hx=>(List.mem_erase_of_ne (fun e:x=a=>(List.nodup_cons.1 hn).1 (e▸hx))).2 (hs x (List.mem_cons_of_mem _ hx))
  rw[List.length_erase_of_mem ha] at h
  have hp:=List.length_pos_of_mem ha
  rw[List.length_cons]
  omega
theorem FI.len{s:cK}{PS:Zf}{U:List Pl}{fo:FM}{se:SM}{rs:Zh}(h:FI s PS U fo se rs):fo.length≤U.length:=by
 have:=nodup_sub _ U h.nod fun x hx=>by
  obtain⟨e,he,rfl⟩:=List.mem_map.1 hx
  exact h.sub e he
 rwa [List.length_map] at this
theorem mset_ge{α:Type}{kt:Ty}{k:kt.den}{y:α}:∀{es:List (kt.den×α)},es.length≤(bz kt k y es).length
 |[]=>Nat.zero_le _
 |
  e::es=>by
  unfold bz
  split
  ·exact Nat.le_refl _
  ·rw[List.length_cons,List.length_cons];exact Nat.succ_le_succ mset_ge
theorem FI.put{s:cK}{PS:Zf}{U:List Pl}{fo:FM}{se:SM}{rs:Zh}(h:FI s PS U fo se rs){p:Pl}(hp:p∈U){x:uZ}(hx:x.2.2.2.1=true→FV s PS x.1 p.1){se':SM}{rs':Zh}
 (h1:se'.length≤1000*(bz bE p x fo).length) (h2:rs'.length≤1000*(bz bE p x fo).length):FI s PS U (bz bE p x fo) se' rs' where
 nod:=cZ (kt:=bE) rfl h.nod
 sub e he:=by
  rcases eG (kt:=bE) he with rfl|he
  ·exact hp
  ·exact h.sub e he
 ok e he:=by
  rcases eG (kt:=bE) he with rfl|he
  ·exact hx
  ·exact h.ok e he
 se:=h1
 rs:=h2
theorem FI.nil(s:cK)(PS:Zf)(U:List Pl):FI s PS U [] [] []:=
 ⟨List.nodup_nil,fun e he=>(by cases he),fun e he=>(by cases he),Nat.le_refl _,Nat.le_refl _⟩
theorem about_eq{w:bL}{lo PS:Zf}{U:List Pl}{ix:Ix}(hw:WX w lo PS U ix)(p:Pl)(d k:Int)(b:Bool)(m:DM)(z:Unit)(fo:FM)(se:SM)(rs:Zh):
 ∃L:Zl,iF p w ix d k b m z fo se rs=some (w,ix,d,k,b,m,z,fo,se,rs,(w.1,(L,())))∧L.length≤1000*1000000∧∀f∈L,f.2.1∈PS:=by
 have hB:=hB
 suffices hW:W (iF p w ix d k b m z fo se rs) fun r=>∃L:Zl,r=(w,ix,d,k,b,m,z,fo,se,rs,(w.1,(L,())))∧L.length≤1000*1000000∧∀f∈L,f.2.1∈PS by
  obtain⟨r,e,L,rfl,h⟩:=hW
  exact⟨L,e,h⟩
 have nil:∀f∈([]:Zl),f.2.1∈PS:=fun f hf=>(by cases hf)
 unfold iF
 by_cases h0:0≤p.1
 ·rw[if_pos (decide_eq_true h0)]
  by_cases h1:p.1<(w.1.1.2.2.1.length:Int)
  ·rw[decide_eq_true h1,Option.bind_some,if_pos rfl,if_pos h0,if_pos h1]
   have e:(nth bB w.1.1.2.2.1 p.1).2.2.2.2.1=flds w.1.1 p.1:=rfl
   have hF:=hw.fl _ h0 h1
   rw[e]
   refine bQ.2 (W.ct (ck (L:=kT) rfl (CT (fun r=>∃L:Zl,r=(w,ix,d,k,b,m,z,fo,se,rs,w.1,L)∧L.length≤1000*1000000∧∀f∈L,f.2.1∈PS) fun _=>False) (flds w.1.1 p.1).length (fun c(L:Zl)=>(((flds w.1.1 p.1).length:Int),(c:Int),w,ix,d,k,b,m,z,fo,se,rs,p,w.1,L)) (fun c L=>L.length≤c*1000000∧∀f∈L,f.2.1∈PS) ?step ?stop _ 0 [] (by omega) (by omega) ⟨Nat.zero_le _,nil⟩) (fun r h=>?_) fun r h=>?_)
   case step=>
    rintro rec c L hc ⟨hL,hP⟩ kk
    dsimp only
    have hw2:aV ((c:Int)+(1:Int))=((c+1:Nat):Int):=aJ (by omega)
    obtain⟨q1,q2⟩:=hw.ix (p.1,(p.2.1,(aV ((aV ((16:Int)*p.2.2.1))+(c:Int)),())))
    rw[if_pos (decide_eq_true (by omega)),if_pos (by omega),hw2]
    refine kk _ ⟨by rw[List.length_append];omega,fun f hf=>?_⟩
    rcases List.mem_append.1 hf with h|h
    ·exact hP f h
    ·exact q2 f h
   case stop=>
    rintro rec L ⟨hL,hP⟩
    dsimp only
    rw[if_neg (by simp only[decide_eq_true_eq];omega)]
    exact⟨_,rfl,L,rfl,Nat.le_trans hL (Nat.mul_le_mul_right _ hF),hP⟩
   ·obtain⟨L,rfl,h⟩:=h
    exact⟨_,rfl,L,rfl,h⟩
   ·exact h.elim
  ·rw[decide_eq_false h1];exact⟨_,rfl,[],rfl,Nat.zero_le _,nil⟩
 ·rw[if_neg (show¬decide ((0:Int)≤p.1)=true by simpa using h0)];exact⟨_,rfl,[],rfl,Nat.zero_le _,nil⟩
def PL(w:bL)(PS:Zf)(U:List Pl)(ix:Ix)(d k:Int)(b:Bool)(m:DM)(z:Unit)(p:Pl)(r:bL×Ix×Int×Int×Bool×DM×Unit×FM×SM×uZ×List uY):Prop:=
 ∃fo se x rs,r=(w,ix,d,k,b,m,z,fo,se,x,rs)∧FI w.1.1 PS U fo se rs∧(x.2.2.2.1=true→FV w.1.1 PS x.1 p.1)
theorem found_eq{w:bL}{PS:Zf}{U:List Pl}(ix:Ix)(p:Pl)(d k:Int)(b:Bool)(m:DM)(z:Unit){fo:FM}{se:SM}{rs:Zh}(h:FI w.1.1 PS U fo se rs)(hp:cp bE p fo=true):
 PL w PS U ix d k b m z p (w,ix,d,k,b,m,z,fo,se,bJ bE bU p fo,rs):=by
 refine⟨_,_,_,_,rfl,h,fun hx=>?_⟩
 obtain⟨i,hi⟩:=mF (kt:=bE) (vt:=bU) rfl hp
 exact h.ok _ (List.mem_of_getElem? hi) hx
theorem lookR{w:bL}{lo PS:Zf}{U:List Pl}{ix:Ix}(hw:WX w lo PS U ix)(p:Pl)(d k:Int)(b:Bool)(m:DM)(z:Unit){fo:FM}{se:SM}{rs:Zh}(h:FI w.1.1 PS U fo se rs)(hp:cp bE p fo=false)(hU:p∈U)(hP:p.2.1∈PS):
 ∃(L:Zl)(y:Bool)(x:nD)(n:Zh)(se':SM)(rs':Zh),iF p w ix d k b m z fo se rs=some (w,ix,d,k,b,m,z,fo,se,rs,(w.1,(L,())))∧f33 (w.1,(L,())) p.1 p.2.1 p.2.2.1 d k=some (y,x,n)∧
  iA rs n w ix d k b m z fo se=some (n,w,ix,d,k,b,m,z,fo,se',rs')∧fo.length+1≤aC∧
  PL w PS U ix d k b m z p (w,ix,d,k,b,m,z,bz bE p (x,((0:Int),(([]:ZB),(y,())))) fo,se',(x,((0:Int),(([]:ZB),(y,())))),rs'):=by
 have hB:=hB
 obtain⟨L,e1,hL,hPS⟩:=about_eq hw p d k b m z fo se rs
 obtain⟨⟨y,x,n⟩,e2,hn,hx⟩:=recAt_eq (PS:=PS) (w.1,(L,())) hw.cg.sw.nb hw.cg.sw.rules hw.fl (by show L.length≤aC;omega) hPS p.1 p.2.1 p.2.2.1 d k hP
 dsimp only at hn hx
 have hlen:=h.len
 have h1:=hw.len
 have h2:=h.se
 have h3:=h.rs
 obtain⟨se',rs',e3,q1,q2⟩:=freshL_eq n se rs (by omega) (by omega)
 refine⟨L,y,x,n,se',rs',e1,e2,?_,by omega,?_⟩
 ·unfold iA
  rw[if_pos (by omega),e3]
  rfl
 ·have hnew:(bz bE p (x,((0:Int),(([]:ZB),(y,())))) fo).length=fo.length+1:=by
   rw[j8 (kt:=bE) rfl (fun hm=>by rw[(ee (kt:=bE) rfl).2 hm] at hp;cases hp),List.length_append,List.length_singleton]
  exact⟨_,_,_,_,rfl,h.put hU hx (by omega) (by omega),hx⟩
abbrev Q0:=Pl×bL×Ix×Int×Int×Bool×DM×Unit×FM×SM×List uY×Unit→Option (bL×Ix×Int×Int×Bool×DM×Unit×FM×SM×uZ×List uY)
abbrev Q1:=cF×Int×List nD×bL×Ix×Int×Int×Bool×DM×Unit×FM×SM×List uY×Unit→Option (Bool×cF×Int×bL×Ix×Int×Int×Bool×DM×Unit×FM×SM×List nD×List uY)
def CPo(w:bL)(PS:Zf)(U:List Pl)(ix:Ix)(d k:Int)(b:Bool)(m:DM)(z:Unit)(u:cF)(p:Int)(l:ZB)(r:Bool×cF×Int×bL×Ix×Int×Int×Bool×DM×Unit×FM×SM×List nD×List uY):Prop:=
 ∃y fo se l' rs,r=(y,u,p,w,ix,d,k,b,m,z,fo,se,l',rs)∧FI w.1.1 PS U fo se rs∧(y=false→l'=l)∧(y=true→LI w.1.1 PS u l'∧l'.length=u.2.2.1.length)
theorem lookK{w:bL}{lo PS:Zf}{U:List Pl}{ix:Ix}(hw:WX w lo PS U ix)(q0:Q0)(q1:Q1)(p:Pl)(d k:Int)(b:Bool)(m:DM)(z:Unit){fo:FM}{se:SM}{rs:Zh}(h:FI w.1.1 PS U fo se rs)(hU:p∈U)(hP:p.2.1∈PS)
 (hd:W (rp q0 q1 p w ix d k b m z fo se rs) (PL w PS U ix d k b m z p)):W (lQ q0 q1 p w ix d k b m z fo se rs) (PL w PS U ix d k b m z p):=by
 have hB:=hB
 unfold lQ
 cases hp:cp bE p fo with
 |true=>rw[if_pos rfl];exact⟨_,rfl,found_eq ix p d k b m z h hp⟩
 |
  false=>
  rw[if_neg (by decide)]
  split
  ·refine bQ.2 (gN.2 (hd.mono fun r hr=>?_))
   obtain⟨fo',se',x,rs',rfl,h',hx⟩:=hr
   refine⟨_,rfl,?_⟩
   rw[fU]
   dsimp only
   have hl:=h'.len
   have hl2:=hw.len
   rw[if_pos (show fo'.length+1≤aC by omega)]
   have hg:fo'.length≤(bz bE p x fo').length:=mset_ge (kt:=bE)
   have h1:=h'.se
   have h2:=h'.rs
   exact⟨_,rfl,_,_,_,_,rfl,h'.put hU hx (by omega) (by omega),hx⟩
  ·obtain⟨L,y,x,n,se',rs',e1,e2,e3,hl,hr⟩:=lookR hw p d k b m z h hp hU hP
   have e4:mV n=some n:=rfl
   rw[e1,Option.bind_some]
   dsimp only
   rw[gJ,gJ,gJ,gJ,e2,Option.bind_some]
   dsimp only
   rw[e4,Option.bind_some,e3,Option.bind_some,aG]
   dsimp only
   rw[if_pos hl]
   exact⟨_,rfl,hr⟩
theorem applyK{w:bL}{PS:Zf}{U:List Pl}{ix:Ix}(q0:Q0)(q1:Q1)(u:cF)(p:Int)(d k:Int)(b:Bool)(m:DM)(z:Unit)(fo:FM)(se:SM)(rs:Zh)(h:W (q1 (u,p,[],w,ix,d,k,b,m,z,fo,se,rs,())) (CPo w PS U ix d k b m z u p [])):
 W (pF q0 q1 u p w ix d k b m z fo se rs) fun r=>∃y fo se l rs,r=(y,w,ix,d,k,b,m,z,fo,se,l,rs)∧FI w.1.1 PS U fo se rs∧(y=true→LI w.1.1 PS u l∧l.length=u.2.2.1.length):=by
 unfold pF
 refine gN.2 (h.mono fun r hr=>?_)
 obtain⟨y,fo',se',l',rs',rfl,h',h1,h2⟩:=hr
 dsimp only
 cases y with
 |false=>exact⟨_,rfl,false,_,_,_,_,rfl,h',fun h=>(by cases h)⟩
 |true=>exact⟨_,rfl,true,_,_,_,_,rfl,h',h2⟩
theorem deriveK{w:bL}{lo PS:Zf}{U:List Pl}{ix:Ix}(hw:WX w lo PS U ix)(q0:Q0)(q1:Q1)(p:Pl)(d k:Int)(b:Bool)(m:DM)(z:Unit){fo:FM}{se:SM}{rs:Zh}(h:FI w.1.1 PS U fo se rs)(hP:p.2.1∈PS)
 (hq:∀u∈w.1.1.2.2.2.1,u.2.1=p.1→∀fo se rs,FI w.1.1 PS U fo se rs→W (q1 (u,p.2.1,[],w,ix,d,k,b,m,z,fo,se,rs,())) (CPo w PS U ix d k b m z u p.2.1 [])):
 W (rp q0 q1 p w ix d k b m z fo se rs) (PL w PS U ix d k b m z p):=by
 have hB:=hB
 have hr:=hw.cg.sw.rules
 unfold rp
 refine bQ.2 (W.ct (ck (L:=sP q0 q1) rfl (CT (fun r=>∃fo se rs,r=(w,ix,d,k,b,m,z,fo,se,(0:Int),(0:Int),(0:Int),(0:Int),false,rs)∧FI w.1.1 PS U fo se rs) (PL w PS U ix d k b m z p)) w.1.1.2.2.2.1.length (fun c(s:FM×SM×List uY)=>(w.1.1.2.2.2.1,(w.1.1.2.2.2.1.length:Int),(c:Int),w,ix,d,k,b,m,z,s.1,s.2.1,p,(0:Int),(0:Int),(0:Int),(0:Int),false,s.2.2)) (fun _ s=>FI w.1.1 PS U s.1 s.2.1 s.2.2) ?step ?stop _ 0 (fo,se,rs) (by omega) (by omega) h) (fun r hr=>?_) fun r hr=>?_)
 case step=>
  rintro rec c ⟨fo,se,rs⟩ hc hI kk
  dsimp only at hI ⊢
  have hw2:aV ((c:Int)+(1:Int))=((c+1:Nat):Int):=aJ (by omega)
  have hm:=da (t:=bu) (l:=w.1.1.2.2.2.1) (Int.natCast_nonneg c) (show(c:Int)<(w.1.1.2.2.2.1.length:Int) by omega)
  rw[if_pos (decide_eq_true (by omega)),if_pos (Int.natCast_nonneg c),if_pos (show(c:Int)<(w.1.1.2.2.2.1.length:Int) by omega)]
  generalize nth bu w.1.1.2.2.2.1 (c:Int)=u at hm ⊢
  by_cases hu:u.2.1=p.1
  ·rw[if_neg (show¬(!decide (u.2.1=p.1))=true by simp[hu])]
   refine gN.2 ((applyK q0 q1 u p.2.1 d k b m z fo se rs (hq u hm hu fo se rs hI)).mono fun r hr=>?_)
   obtain⟨y,fo',se',l',rs',rfl,h',h2⟩:=hr
   dsimp only
   cases y with
   |
    false=>
    rw[if_neg (by decide),hw2]
    exact kk (fo',se',rs') h'
   |
    true=>
    rw[if_pos rfl]
    have hR:=hw.cg.tg.rules u hm
    have hf:=hw.cg.tg.fields _ (da (t:=bB) (l:=w.1.1.2.2.1) hR.h0 hR.h1)
    obtain⟨hLI,hlen⟩:=h2 rfl
    have hs:=(hw.cg.sw.rl u hm).2.2
    refine gN.2 ((build_eq w (by omega) hR hLI hlen hf (hw.fl _ hR.h0 hR.h1) p.2.1 hP hw.zero (hw.consts u hm) ix d k b m z fo' se' rs').mono fun r hr=>?_)
    obtain⟨x,rfl,hx⟩:=hr
    exact⟨_,rfl,_,_,_,_,rfl,h',fun _=>hu▸hx⟩
  ·rw[if_pos (show(!decide (u.2.1=p.1))=true by simp[hu]),hw2]
   exact kk (fo,se,rs) hI
 case stop=>
  rintro rec ⟨fo,se,rs⟩ hI
  dsimp only at hI ⊢
  rw[if_neg (by simp only[decide_eq_true_eq];omega)]
  exact⟨_,rfl,fo,se,rs,rfl,hI⟩
 ·obtain⟨fo',se',rs',rfl,h'⟩:=hr
  exact⟨_,rfl,_,_,_,_,rfl,h',fun h=>(by cases h)⟩
 ·exact hr
theorem chooseK{w:bL}{lo PS:Zf}{U:List Pl}{ix:Ix}(hw:WX w lo PS U ix)(q0:Q0)(q1:Q1)(u:cF)(hu:u∈w.1.1.2.2.2.1)(p:Int)(l:ZB)(d k:Int)(b:Bool)(m:DM)(z:Unit){fo:FM}{se:SM}{rs:Zh}(h:FI w.1.1 PS U fo se rs)(hP:p∈PS)(hL:LI w.1.1 PS u l)
 (hq0:∀y:Pl,y∈U→y.2.1∈PS→l.length<u.2.2.1.length→y.1=(nth aK u.2.2.1 (l.length:Int)).2.2.1→∀fo se rs,FI w.1.1 PS U fo se rs→W (q0 (y,w,ix,d,k,b,m,z,fo,se,rs,())) (PL w PS U ix d k b m z y))
 (hq1:∀l',LI w.1.1 PS u l'→l'.length=l.length+1→∀fo se rs,FI w.1.1 PS U fo se rs→W (q1 (u,p,l',w,ix,d,k,b,m,z,fo,se,rs,())) (CPo w PS U ix d k b m z u p l')):
 W (mP q0 q1 u p l w ix d k b m z fo se rs) (CPo w PS U ix d k b m z u p l):=by
 have hB:=hB
 have hR:RK (cR w.1.1 u):=hw.cg.tg.rules u hu
 unfold mP
 by_cases hl:l.length=u.2.2.1.length
 ·rw[if_pos (decide_eq_true (by omega))]
  refine gN.2 ((hold_eq w hw.cg.sw.nb (hw.cg.sw.rl u hu).2.1 hR hL hl ix d k b m z fo se rs).mono fun r hr=>?_)
  obtain⟨y,rfl⟩:=hr
  exact⟨_,rfl,y,_,_,_,_,rfl,h,fun _=>rfl,fun _=>⟨hL,hl⟩⟩
 ·have hll:=hL.len
  have hlt:l.length<u.2.2.1.length:=by omega
  have hn3:u.2.2.1.length≤3:=hR.n3
  have hF:FO (cR w.1.1 u) l.length:=hR.fo l.length hlt
  have hs0:0≤(nth aK u.2.2.1 (l.length:Int)).2.2.1:=hF.s0
  have hs1:(nth aK u.2.2.1 (l.length:Int)).2.2.1<(w.1.1.2.2.1.length:Int):=hF.s1
  have hof:(nth aK u.2.2.1 (l.length:Int)).2.2.2.1.2.2.1= -1∨InT (cR w.1.1 u) (nth aK u.2.2.1 (l.length:Int)).2.2.2.1 (l.length:Int):=hF.of
  have hpush:∀x:nD,FV w.1.1 PS x (nth aK u.2.2.1 (l.length:Int)).2.2.1→LI w.1.1 PS u (l++[x]):=fun x hx=>hL.push hlt hx
  rw[if_neg (show¬decide ((l.length:Int)=(u.2.2.1.length:Int))=true by simp;omega),if_pos (Int.natCast_nonneg _),if_pos (show(l.length:Int)<(u.2.2.1.length:Int) by omega)]
  generalize hv:nth aK u.2.2.1 (l.length:Int)=v at hs0 hs1 hof hpush hq0
  have key:∀(o:Int)(n:Nat),o∈PS→n≤4→W (aE (U:=cF×Int×bL×Ix×Int×Int×Bool×DM×Unit×FM×SM×(ZB)×(Zh)) (iC q0 q1 (Int.toNat (n:Int)+1) (o,(n:Int),(0:Int),u,p,w,ix,d,k,b,m,z,fo,se,v,l,rs)) fun x=>some (false,x.1,x.2.1,x.2.2.1,x.2.2.2.1,x.2.2.2.2.1,x.2.2.2.2.2.1,x.2.2.2.2.2.2.1,x.2.2.2.2.2.2.2.1,x.2.2.2.2.2.2.2.2.1,x.2.2.2.2.2.2.2.2.2.1,x.2.2.2.2.2.2.2.2.2.2.1,x.2.2.2.2.2.2.2.2.2.2.2.1,x.2.2.2.2.2.2.2.2.2.2.2.2)) (CPo w PS U ix d k b m z u p l):=by
   intro o n ho hn
   refine bQ.2 (W.ct (ck (L:=iC q0 q1) rfl (CT (fun r=>∃fo se rs,r=(u,p,w,ix,d,k,b,m,z,fo,se,l,rs)∧FI w.1.1 PS U fo se rs) (CPo w PS U ix d k b m z u p l)) n (fun c(s:FM×SM×List uY)=>(o,(n:Int),(c:Int),u,p,w,ix,d,k,b,m,z,s.1,s.2.1,v,l,s.2.2)) (fun _ s=>FI w.1.1 PS U s.1 s.2.1 s.2.2) ?step ?stop _ 0 (fo,se,rs) (by omega) (by omega) h) (fun r hr=>?_) fun r hr=>hr)
   case step=>
    rintro rec c ⟨fo,se,rs⟩ hc hI kk
    dsimp only at hI ⊢
    have hw2:aV ((c:Int)+(1:Int))=((c+1:Nat):Int):=aJ (by omega)
    rw[if_pos (decide_eq_true (by omega))]
    refine gN.2 ((hq0 (v.2.2.1,(o,((c:Int),()))) (hw.pl _ _ _ hs0 hs1 ho (Int.natCast_nonneg c) (by omega)) ho hlt rfl fo se rs hI).mono fun r hr=>?_)
    obtain⟨fo',se',x,rs',rfl,h',hx⟩:=hr
    dsimp only
    cases hk:x.2.2.2.1 with
    |
     false=>
     rw[if_neg (by decide),hw2]
     exact kk (fo',se',rs') h'
    |
     true=>
     rw[if_pos rfl,if_pos (show(l.length+List.length [x.1])*48≤aC by rw[List.length_singleton];omega)]
     refine gN.2 ((hq1 (l++[x.1]) (hpush x.1 (hx hk)) (by rw[List.length_append,List.length_singleton]) fo' se' rs' h').mono fun r hr=>?_)
     obtain⟨y,fo2,se2,l2,rs2,rfl,h2,hy0,hy1⟩:=hr
     dsimp only
     cases y with
     |true=>exact⟨_,rfl,true,_,_,_,_,rfl,h2,fun h=>(by cases h),hy1⟩
     |
      false=>
      have e:=hy0 rfl
      subst e
      have e1:aV (((l++[x.1]).length:Int) -(1:Int))=(l.length:Int):=by
       rw[List.length_append,List.length_singleton]
       rw[fT (by omega) (by omega)]
       omega
      rw[if_neg (by decide),e1,if_pos (Int.natCast_nonneg _),if_pos (by rw[List.length_append,List.length_singleton];omega),Int.toNat_natCast,Nat.sub_zero,List.take_left,hw2]
      exact kk (fo2,se2,rs2) h2
   case stop=>
    rintro rec ⟨fo,se,rs⟩ hI
    dsimp only at hI ⊢
    rw[if_neg (by simp only[decide_eq_true_eq];omega)]
    exact⟨_,rfl,fo,se,rs,rfl,hI⟩
   ·obtain⟨fo',se',rs',rfl,h'⟩:=hr
    exact⟨_,rfl,false,_,_,_,_,rfl,h',fun _=>rfl,fun h=>(by cases h)⟩
  have fin:∀o:Int,o∈PS→W (aE (U:=Int×Int×cF×Int×(ZB)×bL×Ix×Int×Int×Bool×DM×Unit×FM×SM×(Zh)×rV) (if(bJ (.int .i64) .bool v.2.2.1 (bT m))=true then(some (.brk (o,(1:Int),u,p,l,w,ix,d,k,b,m,z,fo,se,rs,v))) else(some (.brk (o,(4:Int),u,p,l,w,ix,d,k,b,m,z,fo,se,rs,v)))) fun x=>aE (U:=cF×Int×bL×Ix×Int×Int×Bool×DM×Unit×FM×SM×(ZB)×(Zh)) (iC q0 q1 (Int.toNat x.2.1+1) (x.1,x.2.1,(0:Int),x.2.2.1,x.2.2.2.1,x.2.2.2.2.2.1,x.2.2.2.2.2.2.1,x.2.2.2.2.2.2.2.1,x.2.2.2.2.2.2.2.2.1,x.2.2.2.2.2.2.2.2.2.1,x.2.2.2.2.2.2.2.2.2.2.1,x.2.2.2.2.2.2.2.2.2.2.2.1,x.2.2.2.2.2.2.2.2.2.2.2.2.1,x.2.2.2.2.2.2.2.2.2.2.2.2.2.1,x.2.2.2.2.2.2.2.2.2.2.2.2.2.2.2,x.2.2.2.2.1,x.2.2.2.2.2.2.2.2.2.2.2.2.2.2.1)) fun x=>some (false,x.1,x.2.1,x.2.2.1,x.2.2.2.1,x.2.2.2.2.1,x.2.2.2.2.2.1,x.2.2.2.2.2.2.1,x.2.2.2.2.2.2.2.1,x.2.2.2.2.2.2.2.2.1,x.2.2.2.2.2.2.2.2.2.1,x.2.2.2.2.2.2.2.2.2.2.1,x.2.2.2.2.2.2.2.2.2.2.2.1,x.2.2.2.2.2.2.2.2.2.2.2.2)) (CPo w PS U ix d k b m z u p l):=fun o ho=>by
   split
   ·rw[aG];exact key o 1 ho (by omega)
   ·rw[aG];exact key o 4 ho (by omega)
  by_cases hvar:v.2.2.2.1.2.2.1= -1
  ·rw[if_neg (show¬(!decide (v.2.2.2.1.2.2.1=(-1:Int)))=true by simp[hvar]),aG]
   exact fin p hP
  ·rcases hof with h1|h1
   ·exact absurd h1 hvar
   ·obtain⟨a1,a2,a3,a4,a5⟩:=values_at hL (Int.le_refl _) h1
    rw[if_pos (show(!decide (v.2.2.2.1.2.2.1=(-1:Int)))=true by simpa using hvar),if_pos a1,if_pos a2,if_pos a3,if_pos a4,aG]
    exact fin _ a5
theorem knot{w:bL}{lo PS:Zf}{U:List Pl}{ix:Ix}(hw:WX w lo PS U ix)(d k:Int)(b:Bool)(m:DM)(z:Unit):∀n:Nat,
 (∀(p:Pl) fo se rs,FI w.1.1 PS U fo se rs→p∈U→p.2.1∈PS→5*(lo.idxOf p.1+1)≤n→W ((ia n).1 (p,w,ix,d,k,b,m,z,fo,se,rs,())) (PL w PS U ix d k b m z p))∧
 (∀u∈w.1.1.2.2.2.1,∀(q:Int) l fo se rs,FI w.1.1 PS U fo se rs→q∈PS→LI w.1.1 PS u l→5*lo.idxOf u.2.1+(u.2.2.1.length -l.length)+1≤n→W ((ia n).2 (u,q,l,w,ix,d,k,b,m,z,fo,se,rs,())) (CPo w PS U ix d k b m z u q l)):=by
 intro n
 induction n with
 |zero=>exact⟨fun p fo se rs _ _ _ h=>by omega,fun u _ q l fo se rs _ _ _ h=>by omega⟩
 |
  succ n ih=>
  refine⟨fun p fo se rs h hU hP hn=>?_,fun u hu q l fo se rs h hP hL hn=>?_⟩
  ·have:W (lQ (ia n).1 (ia n).2 p w ix d k b m z fo se rs) (PL w PS U ix d k b m z p):=
    lookK hw _ _ p d k b m z h hU hP (deriveK hw _ _ p d k b m z h hP fun u hu hup fo se rs h=>ih.2 u hu p.2.1 [] fo se rs h hP (LI.nil _ _ _) (by
     have hn3:u.2.2.1.length≤3:=(hw.cg.tg.rules u hu).n3
     rw[hup,List.length_nil]
     omega))
   exact this
  ·have:W (mP (ia n).1 (ia n).2 u q l w ix d k b m z fo se rs) (CPo w PS U ix d k b m z u q l):=
    chooseK hw _ _ u hu q l d k b m z h hP hL (fun y hy hyP hlt hy1 fo se rs h=>ih.1 y fo se rs h hy hyP (by
     have hpre:=hw.cg.rk.pre u hu _ (da (t:=aK) (l:=u.2.2.1) (Int.natCast_nonneg l.length) (show(l.length:Int)<(u.2.2.1.length:Int) by omega))
     rw[←hy1] at hpre
     omega)) fun l' hL' hl' fo se rs h=>ih.2 u hu q l' fo se rs h hP hL' (by
     have:=hL'.len
     omega)
   exact this
theorem look_eq{w:bL}{lo PS:Zf}{U:List Pl}{ix:Ix}(hw:WX w lo PS U ix)(d k:Int)(b:Bool)(m:DM)(z:Unit)(p:Pl){fo:FM}{se:SM}{rs:Zh}(h:FI w.1.1 PS U fo se rs)(hU:p∈U)(hP:p.2.1∈PS):
 W (kU p w ix d k b m z fo se rs) (PL w PS U ix d k b m z p):=by
 have hl:=hw.cg.rk.len
 have hm:=hw.cg.tg.many
 refine(knot hw d k b m z ff).1 p fo se rs h hU hP ?_
 have hi:lo.idxOf p.1≤lo.length:=List.idxOf_le_length
 show _≤18446744073709551616
 omega
theorem lookk_eq{w:bL}{lo PS:Zf}{U:List Pl}{ix:Ix}(hw:WX w lo PS U ix)(d k:Int)(b:Bool)(m:DM)(z:Unit)(p:Pl){fo:FM}{se:SM}{rs:Zh}(h:FI w.1.1 PS U fo se rs)(hU:p∈U)(hP:p.2.1∈PS):
 W (gZ p w ix d k b m z fo se rs) (PL w PS U ix d k b m z p):=by
 unfold gZ
 cases hp:cp bE p fo with
 |true=>rw[if_pos rfl];exact look_eq hw d k b m z p h hU hP
 |
  false=>
  rw[if_neg (by decide)]
  split
  ·exact look_eq hw d k b m z p h hU hP
  ·obtain⟨L,y,x,n,se',rs',e1,e2,e3,hl,hr⟩:=lookR hw p d k b m z h hp hU hP
   have e4:mV n=some n:=rfl
   rw[e1,Option.bind_some]
   dsimp only
   rw[e2,Option.bind_some]
   dsimp only
   rw[e4,Option.bind_some,e3,Option.bind_some]
   dsimp only
   rw[if_pos hl]
   exact⟨_,rfl,hr⟩
structure FT(b:cK):Prop where
 schemas:b.2.2.1.length≤6
 rules:b.2.2.2.1.length≤4
 fields:∀x∈b.2.2.1,x.2.2.2.2.1.length≤6
 S3:∀x∈b.2.2.2.1,x.2.2.2.2.1.length≤6
theorem Hb(b:cK)(h:SS b):∃r,f107 b=some r∧(r=true→FT b):=by
 have hB:=hB
 have h3:=h.schemas
 have h4:=h.rules
 have h5:=h.converts
 have h6:=h.purposes
 suffices hW:W (f107 b) fun r=>r=true→FT b by
  obtain⟨r,e,h⟩:=hW
  exact⟨r,e,h⟩
 have nb:∀n:Nat,n≤aC→n -0<ff:=fun n hn=>by show _<18446744073709551616;omega
 have no:(false:Bool)=true→FT b:=fun h=>(by cases h)
 unfold f107
 refine bQ.2 (W.ct (ck (L:=zN) rfl (CT (fun d=>d=b∧∀j(hj:j<b.2.2.1.length),b.2.2.1[j].2.2.2.2.1.length≤6) fun r=>r=false) b.2.2.1.length (fun c(_:Unit)=>((c:Int),b)) (fun c _=>∀j(hj:j<b.2.2.1.length),j<c→b.2.2.1[j].2.2.2.2.1.length≤6) ?step ?stop ff 0 () (nb _ h3) (by omega) (fun j _ h=>absurd h (Nat.not_lt_zero _))) (fun d hd=>?_) fun r hr=>by subst hr;exact no)
 case step=>
  intro rec c _ hc hI kk
  dsimp only
  have hw2:aV ((c:Int)+(1:Int))=((c+1:Nat):Int):=aJ (by omega)
  have hcc:(c:Int)<(b.2.2.1.length:Int):=by omega
  rw[if_pos (decide_eq_true hcc),if_pos (Int.natCast_nonneg c),if_pos hcc,db (t:=bB) hc]
  by_cases a1:(6:Int)<(b.2.2.1[c].2.2.2.2.1.length:Int)
  ·rw[if_pos (decide_eq_true a1)];exact⟨_,rfl,rfl⟩
  ·rw[if_neg (show¬decide ((6:Int)<(b.2.2.1[c].2.2.2.2.1.length:Int))=true by simpa using a1),if_pos (Int.natCast_nonneg c),if_pos hcc,Option.bind_some]
   split
   ·exact⟨_,rfl,rfl⟩
   ·rw[hw2]
    refine kk () fun j hj hjc=>?_
    by_cases e:j=c
    ·subst e;omega
    ·exact hI j hj (by omega)
 case stop=>
  intro rec _ hI
  dsimp only
  rw[if_neg (by simp only[decide_eq_true_eq];omega)]
  exact⟨_,rfl,rfl,fun j hj=>hI j hj hj⟩
 obtain⟨rfl,hf⟩:=hd
 refine bQ.2 (W.ct (ck (L:=zO) rfl (CT (fun d'=>d'=d∧∀j(hj:j<d.2.2.2.1.length),d.2.2.2.1[j].2.2.2.2.1.length≤6) fun r=>r=false) d.2.2.2.1.length (fun c(_:Unit)=>((c:Int),d)) (fun c _=>∀j(hj:j<d.2.2.2.1.length),j<c→d.2.2.2.1[j].2.2.2.2.1.length≤6) ?step ?stop ff 0 () (nb _ h4) (by omega) (fun j _ h=>absurd h (Nat.not_lt_zero _))) (fun d' hd=>?_) fun r hr=>by subst hr;exact no)
 case step=>
  intro rec c _ hc hI kk
  dsimp only
  have hw2:aV ((c:Int)+(1:Int))=((c+1:Nat):Int):=aJ (by omega)
  have hcc:(c:Int)<(d.2.2.2.1.length:Int):=by omega
  rw[if_pos (decide_eq_true hcc),if_pos (Int.natCast_nonneg c),if_pos hcc,db (t:=bu) hc]
  by_cases a1:(4:Int)<(d.2.2.2.1[c].2.2.1.length:Int)
  ·rw[if_pos (decide_eq_true a1)];exact⟨_,rfl,rfl⟩
  ·rw[if_neg (show¬decide ((4:Int)<(d.2.2.2.1[c].2.2.1.length:Int))=true by simpa using a1),if_pos (Int.natCast_nonneg c),if_pos hcc]
   by_cases a2:(5:Int)<(d.2.2.2.1[c].2.2.2.1.length:Int)
   ·rw[if_pos (decide_eq_true a2)];exact⟨_,rfl,rfl⟩
   ·rw[if_neg (show¬decide ((5:Int)<(d.2.2.2.1[c].2.2.2.1.length:Int))=true by simpa using a2),if_pos (Int.natCast_nonneg c),if_pos hcc,Option.bind_some]
    by_cases a3:(6:Int)<(d.2.2.2.1[c].2.2.2.2.1.length:Int)
    ·rw[if_pos (decide_eq_true a3)];exact⟨_,rfl,rfl⟩
    ·rw[if_neg (show¬decide ((6:Int)<(d.2.2.2.1[c].2.2.2.2.1.length:Int))=true by simpa using a3),hw2]
     refine kk () fun j hj hjc=>?_
     by_cases e:j=c
     ·subst e;omega
     ·exact hI j hj (by omega)
 case stop=>
  intro rec _ hI
  dsimp only
  rw[if_neg (by simp only[decide_eq_true_eq];omega)]
  exact⟨_,rfl,rfl,fun j hj=>hI j hj hj⟩
 obtain⟨rfl,hs⟩:=hd
 refine bQ.2 (W.ct (ck (L:=vK) rfl (CT (fun d=>d=d') fun r=>r=false) d'.2.2.2.2.1.length (fun c(_:Unit)=>((c:Int),d')) (fun _ _=>True) ?step ?stop ff 0 () (nb _ h5) (by omega) trivial) (fun d hd=>?_) fun r hr=>by subst hr;exact no)
 case step=>
  intro rec c _ hc _ kk
  dsimp only
  have hw2:aV ((c:Int)+(1:Int))=((c+1:Nat):Int):=aJ (by omega)
  have hcc:(c:Int)<(d'.2.2.2.2.1.length:Int):=by omega
  rw[if_pos (decide_eq_true hcc),if_pos (Int.natCast_nonneg c),if_pos hcc]
  split
  ·exact⟨_,rfl,rfl⟩
  ·rw[hw2];exact kk () trivial
 case stop=>
  intro rec _ _
  dsimp only
  rw[if_neg (by simp only[decide_eq_true_eq];omega)]
  exact⟨_,rfl,rfl⟩
 subst hd
 refine bQ.2 (W.ct (ck (L:=vL) rfl (CT (fun d'=>d'=d) fun r=>r=false) d.2.2.2.2.2.1.length (fun c(_:Unit)=>((c:Int),d)) (fun _ _=>True) ?step ?stop ff 0 () (nb _ h6) (by omega) trivial) (fun d' hd=>?_) fun r hr=>by subst hr;exact no)
 case step=>
  intro rec c _ hc _ kk
  dsimp only
  have hw2:aV ((c:Int)+(1:Int))=((c+1:Nat):Int):=aJ (by omega)
  have hcc:(c:Int)<(d.2.2.2.2.2.1.length:Int):=by omega
  rw[if_pos (decide_eq_true hcc),if_pos (Int.natCast_nonneg c),if_pos hcc]
  split
  ·exact⟨_,rfl,rfl⟩
  ·rw[hw2];exact kk () trivial
 case stop=>
  intro rec _ _
  dsimp only
  rw[if_neg (by simp only[decide_eq_true_eq];omega)]
  exact⟨_,rfl,rfl⟩
 subst hd
 by_cases c1:(d'.1.length:Int)≤4
 ·rw[if_pos (decide_eq_true c1)]
  by_cases c2:(d'.2.1.length:Int)≤5
  ·rw[if_pos (decide_eq_true c2)]
   by_cases c3:(d'.2.2.1.length:Int)≤6
   ·rw[if_pos (decide_eq_true c3)]
    by_cases c4:(d'.2.2.2.1.length:Int)≤4
    ·rw[if_pos (decide_eq_true c4)]
     have eM:FT d':=⟨by omega,by omega,fun x hx=>by
      obtain⟨j,hj,rfl⟩:=List.getElem_of_mem hx
      exact hf j hj,fun x hx=>by
      obtain⟨j,hj,rfl⟩:=List.getElem_of_mem hx
      exact hs j hj⟩
     split
     ·exact⟨_,rfl,fun _=>eM⟩
     ·exact⟨_,rfl,no⟩
    ·rw[if_neg (show¬decide ((d'.2.2.2.1.length:Int)≤4)=true by simpa using c4)];exact⟨_,rfl,no⟩
   ·rw[if_neg (show¬decide ((d'.2.2.1.length:Int)≤6)=true by simpa using c3)];exact⟨_,rfl,no⟩
  ·rw[if_neg (show¬decide ((d'.2.1.length:Int)≤5)=true by simpa using c2)];exact⟨_,rfl,no⟩
 ·rw[if_neg (show¬decide ((d'.1.length:Int)≤4)=true by simpa using c1)];exact⟨_,rfl,no⟩
theorem Hc(w:bL)(h:SS w.1.1):∃r,f38 w=some r∧(r=true→FT w.1.1):=by
 obtain⟨r,e,hr⟩:=Hb w.1.1 h
 unfold f38 f64
 rw[e,Option.bind_some]
 cases r with
 |false=>exact⟨false,rfl,fun h=>(by cases h)⟩
 |
  true=>
  have ht:=hr rfl
  rw[if_pos rfl,Option.bind_some,Option.bind_some]
  split
  ·exact⟨_,rfl,fun _=>ht⟩
  ·exact⟨false,rfl,fun h=>(by cases h)⟩
theorem Hd(w:bL)(h:SS w.1.1):∃r,f19 w=some r∧(r=true→FT w.1.1):=by
 have hB:=hB
 have h4:=h.rules
 suffices hW:W (f19 w) fun r=>r=true→FT w.1.1 by
  obtain⟨r,e,h⟩:=hW
  exact⟨r,e,h⟩
 have no:(false:Bool)=true→FT w.1.1:=fun h=>(by cases h)
 unfold f19
 refine bQ.2 (W.ct (ck (L:=Ci) rfl (CT (fun d=>d=(w,w.1.1)) fun r=>r=false) w.1.1.2.2.2.1.length (fun c(_:Unit)=>((c:Int),w,w.1.1)) (fun _ _=>True) ?step ?stop ff 0 () (by show _<18446744073709551616;omega) (by omega) trivial) (fun d hd=>?_) fun r hr=>by subst hr;exact no)
 case step=>
  intro rec c _ hc _ kk
  dsimp only
  have hw2:aV ((c:Int)+(1:Int))=((c+1:Nat):Int):=aJ (by omega)
  have hcc:(c:Int)<(w.1.1.2.2.2.1.length:Int):=by omega
  rw[if_pos (decide_eq_true hcc),if_pos (Int.natCast_nonneg c),if_pos hcc]
  split
  ·exact⟨_,rfl,rfl⟩
  ·rw[hw2];exact kk () trivial
 case stop=>
  intro rec _ _
  dsimp only
  rw[if_neg (by simp only[decide_eq_true_eq];omega)]
  exact⟨_,rfl,rfl⟩
 subst hd
 dsimp only
 obtain⟨r,e,hr⟩:=Hc w h
 rw[e,Option.bind_some]
 cases r with
 |false=>exact⟨false,rfl,no⟩
 |
  true=>
  have ht:=hr rfl
  rw[if_pos rfl]
  split
  ·exact⟨_,rfl,fun _=>ht⟩
  ·exact⟨false,rfl,no⟩
structure FW(w:bL)(l:ZC):Prop where
 ft:FT w.1.1
 facts:w.2.1.length≤30
 IN:l.length≤6
 fields:∀p∈l,p.2.2.2.2.2.2.2.1.length≤16
theorem He(w:bL)(l:ZC)(h:SS w.1.1)(hl:l.length≤aC):∃r,f7 w l=some r∧(r=true→FW w l):=by
 have hB:=hB
 suffices hW:W (f7 w l) fun r=>r=true→FW w l by
  obtain⟨r,e,h⟩:=hW
  exact⟨r,e,h⟩
 have no:(false:Bool)=true→FW w l:=fun h=>(by cases h)
 unfold f7
 refine bQ.2 (W.ct (ck (L:=Io) rfl (CT (fun d=>d=(l,w)∧∀j(hj:j<l.length),l[j].2.2.2.2.2.2.2.1.length≤16) fun r=>r=false) l.length (fun c(_:Unit)=>(l,(c:Int),w)) (fun c _=>∀j(hj:j<l.length),j<c→l[j].2.2.2.2.2.2.2.1.length≤16) ?step ?stop ff 0 () (by show _<18446744073709551616;omega) (by omega) (fun j _ h=>absurd h (Nat.not_lt_zero _))) (fun d hd=>?_) fun r hr=>by subst hr;exact no)
 case step=>
  intro rec c _ hc hI kk
  dsimp only
  have hw2:aV ((c:Int)+(1:Int))=((c+1:Nat):Int):=aJ (by omega)
  have hcc:(c:Int)<(l.length:Int):=by omega
  rw[if_pos (decide_eq_true hcc),if_pos (Int.natCast_nonneg c),if_pos hcc,db (t:=fg) hc]
  by_cases a1:(16:Int)<(l[c].2.2.2.2.2.2.2.1.length:Int)
  ·rw[if_pos (decide_eq_true a1)];exact⟨_,rfl,rfl⟩
  ·rw[if_neg (show¬decide ((16:Int)<(l[c].2.2.2.2.2.2.2.1.length:Int))=true by simpa using a1),if_pos (Int.natCast_nonneg c),if_pos hcc,Option.bind_some]
   split
   ·exact⟨_,rfl,rfl⟩
   ·rw[hw2]
    refine kk () fun j hj hjc=>?_
    by_cases e:j=c
    ·subst e;omega
    ·exact hI j hj (by omega)
 case stop=>
  intro rec _ hI
  dsimp only
  rw[if_neg (by simp only[decide_eq_true_eq];omega)]
  exact⟨_,rfl,rfl,fun j hj=>hI j hj hj⟩
 obtain⟨rfl,hf⟩:=hd
 dsimp only
 obtain⟨r,e,hr⟩:=Hd w h
 rw[e,Option.bind_some]
 cases r with
 |false=>exact⟨false,rfl,no⟩
 |
  true=>
  have ht:=hr rfl
  rw[if_pos rfl]
  by_cases c1:(w.2.1.length:Int)≤30
  ·rw[if_pos (decide_eq_true c1)]
   by_cases c2:(l.length:Int)≤6
   ·rw[decide_eq_true c2]
    exact⟨true,rfl,fun _=>⟨ht,by omega,by omega,fun p hp=>by
     obtain⟨j,hj,rfl⟩:=List.getElem_of_mem hp
     exact hf j hj⟩⟩
   ·rw[decide_eq_false c2];exact⟨false,rfl,no⟩
  ·rw[if_neg (show¬decide ((w.2.1.length:Int)≤30)=true by simpa using c1)];exact⟨false,rfl,no⟩
theorem Hf{PS:Zf}{c:Nat}{ix:Ex}(h:∀key,(bJ bE (.slice 64 aR) key ix).length≤c∧∀f∈bJ bE (.slice 64 aR) key ix,f.2.1∈PS)(x:ef)(hx:x.2.1∈PS)(key:fQ):
 (bJ bE (.slice 64 aR) key (bz bE x.1 (bJ bE (.slice 64 aR) x.1 ix++[x]) (bz bE x.1 (Ty.aB (.slice 64 aR)) ix))).length≤c+1∧
  ∀f∈bJ bE (.slice 64 aR) key (bz bE x.1 (bJ bE (.slice 64 aR) x.1 ix++[x]) (bz bE x.1 (Ty.aB (.slice 64 aR)) ix)),f.2.1∈PS:=by
 by_cases e:key=x.1
 ·subst e
  rw[gM (kt:=bE) (vt:=.slice 64 aR) rfl]
  refine⟨?_,fun f hf=>?_⟩
  ·have:=(h x.1).1
   rw[List.length_append,List.length_singleton]
   omega
  ·rcases List.mem_append.1 hf with hf|hf
   ·exact(h x.1).2 f hf
   ·rw[List.mem_singleton.1 hf];exact hx
 ·rw[fh (kt:=bE) (vt:=.slice 64 aR) rfl e,fh (kt:=bE) (vt:=.slice 64 aR) rfl e]
  exact⟨Nat.le_succ_of_le (h key).1,(h key).2⟩
theorem Hg(w:bL)(PS:Zf)(hf:w.2.1.length≤1000000)(hr:w.1.1.2.2.2.1.length≤aC)(hP:∀f∈w.2.1,f.2.1∈PS)(d k:Int)(v:Bool):
 ∃(ix:Ix)(m:DM),nG w d k v=some (w,ix,d,k,v,m,(),[],[],[])∧IX PS ix∧∀a,bJ (.int .i64) .bool a (bT m)=true→∃u∈w.1.1.2.2.2.1,u.2.1=a:=by
 have hB:=hB
 suffices hW:W (nG w d k v) fun r=>∃(ix:Ix)(m:DM),r=(w,ix,d,k,v,m,(),[],[],[])∧IX PS ix∧∀a,bJ (.int .i64) .bool a (bT m)=true→∃u∈w.1.1.2.2.2.1,u.2.1=a by
  obtain⟨r,e,ix,m,rfl,h⟩:=hW
  exact⟨ix,m,e,h⟩
 unfold nG
 refine bQ.2 (W.ct (ck (L:=sN) rfl (CT (fun r=>∃ix:Ex,r=(d,k,w,ix,([]:Zn),w,(0:Int),(0:Int),v)∧∀key,(bJ bE (.slice 64 aR) key ix).length≤w.2.1.length∧∀f∈bJ bE (.slice 64 aR) key ix,f.2.1∈PS) fun _=>False) w.2.1.length (fun c(ix:Ex)=>(d,k,w.2.1,(w.2.1.length:Int),(c:Int),w,ix,([]:Zn),w,(0:Int),(0:Int),v)) (fun c ix=>ix.length≤2*c∧∀key,(bJ bE (.slice 64 aR) key ix).length≤c∧∀f∈bJ bE (.slice 64 aR) key ix,f.2.1∈PS) ?step ?stop _ 0 [] (by omega) (by omega) ⟨Nat.zero_le _,fun key=>⟨Nat.zero_le _,fun f hf=>(by cases hf)⟩⟩) (fun r hr=>?_) fun r hr=>hr.elim)
 case step=>
  rintro rec c ix hc ⟨hl,hI⟩ kk
  dsimp only
  have hw2:aV ((c:Int)+(1:Int))=((c+1:Nat):Int):=aJ (by omega)
  have hcc:(c:Int)<(w.2.1.length:Int):=by omega
  have hm:=da (t:=aR) (l:=w.2.1) (Int.natCast_nonneg c) hcc
  rw[if_pos (decide_eq_true hcc),if_pos (Int.natCast_nonneg c),if_pos hcc]
  generalize nth aR w.2.1 (c:Int)=x at hm ⊢
  have h1:=(hI x.1).1
  rw[if_pos ((B8 bE x.1 x.1).2 rfl),if_pos (show ix.length+1≤aC by omega),if_pos (show((bJ bE (.slice 64 aR) x.1 ix).length+List.length [x])*64≤aC by rw[List.length_singleton];omega),hw2]
  refine kk _ ⟨?_,fun key=>Hf hI x (hP x hm) key⟩
  have q1:(bz bE x.1 (Ty.aB (.slice 64 aR)) ix).length≤ix.length+1:=dA (kt:=bE)
  have q2:(bz bE x.1 (bJ bE (.slice 64 aR) x.1 ix++[x]) (bz bE x.1 (Ty.aB (.slice 64 aR)) ix)).length≤(bz bE x.1 (Ty.aB (.slice 64 aR)) ix).length+1:=dA (kt:=bE)
  omega
 case stop=>
  rintro rec ix ⟨hl,hI⟩
  dsimp only
  rw[if_neg (by simp only[decide_eq_true_eq];omega)]
  exact⟨_,rfl,ix,rfl,hI⟩
 obtain⟨ix,rfl,hI⟩:=hr
 dsimp only
 have hix:IX PS (some ix):=fun key=>⟨Nat.le_trans (hI key).1 hf,(hI key).2⟩
 refine bQ.2 (W.ct (ck (L:=sO) rfl (CT (fun r=>∃m:Zn,r=(d,k,ix,m,w,(0:Int),(0:Int),v)∧∀a,bJ (.int .i64) .bool a m=true→∃u∈w.1.1.2.2.2.1,u.2.1=a) fun _=>False) w.1.1.2.2.2.1.length (fun c(m:Zn)=>(d,k,w.1.1.2.2.2.1,(w.1.1.2.2.2.1.length:Int),(c:Int),ix,m,w,(0:Int),(0:Int),v)) (fun c m=>m.length≤c∧∀a,bJ (.int .i64) .bool a m=true→∃u∈w.1.1.2.2.2.1,u.2.1=a) ?step ?stop _ 0 [] (by omega) (by omega) ⟨Nat.zero_le _,fun a h=>(by cases h)⟩) (fun r hr=>?_) fun r hr=>hr.elim)
 case step=>
  rintro rec c m hc ⟨hl,hI⟩ kk
  dsimp only
  have hw2:aV ((c:Int)+(1:Int))=((c+1:Nat):Int):=aJ (by omega)
  have hcc:(c:Int)<(w.1.1.2.2.2.1.length:Int):=by omega
  have hm:=da (t:=bu) (l:=w.1.1.2.2.2.1) (Int.natCast_nonneg c) hcc
  rw[if_pos (decide_eq_true hcc),if_pos (Int.natCast_nonneg c),if_pos hcc,if_pos (show m.length+1≤aC by omega),hw2]
  refine kk _ ⟨Nat.le_trans (dA (kt:=.int .i64)) (by omega),fun a ha=>?_⟩
  by_cases e:a=(nth bu w.1.1.2.2.2.1 (c:Int)).2.1
  ·exact⟨_,hm,e.symm⟩
  ·rw[fh (kt:=.int .i64) (vt:=.bool) rfl e] at ha
   exact hI a ha
 case stop=>
  rintro rec m ⟨hl,hI⟩
  dsimp only
  rw[if_neg (by simp only[decide_eq_true_eq];omega)]
  exact⟨_,rfl,m,rfl,hI⟩
 obtain⟨m,rfl,hI⟩:=hr
 exact⟨_,rfl,some ix,some m,rfl,hix,hI⟩
theorem px{α β:Type}{f:α→List β}{n:Nat}:∀{l:List α},(∀x∈l,(f x).length≤n)→(l.flatMap f).length≤l.length*n
 |[],_=>Nat.zero_le _
 |
  x::l,h=>by
  have h1:=h x (List.mem_cons_self ..)
  have h2:=px (f:=f) (n:=n) (l:=l) fun y hy=>h y (List.mem_cons_of_mem _ hy)
  rw[List.flatMap_cons,List.length_append,List.length_cons,Nat.add_mul]
  omega
def Ey(w:bL)(p:Int):Zf:=0::p::(w.2.1.map (fun f=>f.2.1)++w.1.1.2.2.2.1.flatMap fun u=>u.2.2.2.2.1.map fun t=>t.2.2.1.2.2.2.2.1)
def Uo(w:bL)(p:Int)(x:Pl):List Pl:=x::(List.range w.1.1.2.2.1.length).flatMap fun(i:Nat)=>(Ey w p).flatMap fun(q:Int)=>(List.range 4).map fun(j:Nat)=>(((i:Int),(q,((j:Int),()))):Pl)
theorem Hh{w:bL}(p:Int)(hT:FT w.1.1)(hf:w.2.1.length≤30):(Ey w p).length≤56:=by
 have h:=px (f:=fun u:cF=>u.2.2.2.2.1.map fun t=>t.2.2.1.2.2.2.2.1) (n:=6) (l:=w.1.1.2.2.2.1) fun x hx=>by rw[List.length_map];exact hT.S3 x hx
 have h4:=hT.rules
 unfold Ey
 rw[List.length_cons,List.length_cons,List.length_append,List.length_map]
 omega
theorem JU{w:bL}(p:Int)(x:Pl)(hT:FT w.1.1)(hf:w.2.1.length≤30):(Uo w p x).length≤1000000:=by
 have h1:=Hh p hT hf
 have h2:∀i:Nat,((Ey w p).flatMap fun(q:Int)=>(List.range 4).map fun(j:Nat)=>(((i:Int),(q,((j:Int),()))):Pl)).length≤224:=fun i=>by
  have:=px (f:=fun(q:Int)=>(List.range 4).map fun(j:Nat)=>(((i:Int),(q,((j:Int),()))):Pl)) (n:=4) (l:=Ey w p) fun y _=>by rw[List.length_map,List.length_range];exact Nat.le_refl _
  omega
 have h3:=px (f:=fun(i:Nat)=>(Ey w p).flatMap fun(q:Int)=>(List.range 4).map fun(j:Nat)=>(((i:Int),(q,((j:Int),()))):Pl)) (n:=224) (l:=List.range w.1.1.2.2.1.length) fun i _=>h2 i
 rw[List.length_range] at h3
 have h4:=hT.schemas
 unfold Uo
 rw[List.length_cons]
 omega
theorem XX{w:bL}{lo:Zf}(hc:CG w.1.1 lo)(hT:FT w.1.1)(hf:w.2.1.length≤30)(p:Int)(x:Pl){ix:Ix}(hix:IX (Ey w p) ix):WX w lo (Ey w p) (Uo w p x) ix where
 cg:=hc
 zero:=List.mem_cons_self ..
 consts u hu t ht:=List.mem_cons_of_mem _ (List.mem_cons_of_mem _ (List.mem_append_right _ (List.mem_flatMap.2 ⟨u,hu,List.mem_map.2 ⟨t,ht,rfl⟩⟩)))
 pl a q i a0 a1 hq i0 i1:=by
  refine List.mem_cons_of_mem _ (List.mem_flatMap.2 ⟨a.toNat,List.mem_range.2 (by omega),List.mem_flatMap.2 ⟨q,hq,List.mem_map.2 ⟨i.toNat,List.mem_range.2 (by omega),?_⟩⟩⟩)
  have e1:((a.toNat:Nat):Int)=a:=by omega
  have e2:((i.toNat:Nat):Int)=i:=by omega
  rw[e1,e2]
 len:=JU p x hT hf
 fl a a0 a1:=by
  have:=hT.fields _ (da (t:=bB) (l:=w.1.1.2.2.1) a0 a1)
  exact Nat.le_trans this (by decide)
 ix:=hix
theorem BV(a p:Int)(w:bL)(ix:Ix)(d k:Int)(b:Bool)(m:DM)(z:Unit)(fo:FM)(se:SM)(rs:Zh):
 ∃y,ri a p w ix d k b m z fo se rs=some (y,w,ix,d,k,b,m,z,fo,se,rs)∧(y=true→b=true∧bJ (.int .i64) .bool a (bT m)=true):=by
 unfold ri
 cases b with
 |false=>exact⟨false,rfl,fun h=>(by cases h)⟩
 |
  true=>
  rw[if_pos rfl]
  cases hm:bJ (.int .i64) .bool a (bT m) with
  |false=>exact⟨false,rfl,fun h=>(by cases h)⟩
  |
   true=>
   rw[if_pos rfl]
   have yes:∀x:Option (Bool×bL×Ix×Int×Int×Bool×DM×Unit×FM×SM×List uY),(∃y,x=some (y,w,ix,d,k,true,m,z,fo,se,rs))→∃y,x=some (y,w,ix,d,k,true,m,z,fo,se,rs)∧(y=true→true=true∧true=true):=fun x ⟨y,hy⟩=>⟨y,hy,fun _=>⟨rfl,rfl⟩⟩
   apply yes
   repeat' (first|exact⟨_,rfl⟩|split)
theorem BW(w:bL)(hs:SA w.1.1)(hT:FT w.1.1)(hf:w.2.1.length≤30)(a p d k:Int):
 W (f55 w a p d k) fun r=>r.2.2.2.2.1=true→∃u∈w.1.1.2.2.2.1,u.2.1=a∧0≤a∧a<(w.1.1.2.2.1.length:Int):=by
 have hB:=hB
 unfold f55
 obtain⟨r,e,hc⟩:=check_eq w.1 hs
 rw[e,Option.bind_some]
 obtain⟨ix,m,e2,hix,hm⟩:=Hg w (Ey w p) (by omega) hs.sw.rules (fun f hf=>List.mem_cons_of_mem _ (List.mem_cons_of_mem _ (List.mem_append_left _ (List.mem_map.2 ⟨f,hf,rfl⟩)))) d k (decide (r=(0:Int)))
 rw[e2,Option.bind_some]
 dsimp only
 obtain⟨y,e3,hy⟩:=BV a p w ix d k (decide (r=(0:Int))) m () [] [] []
 rw[e3,Option.bind_some]
 dsimp only
 cases y with
 |false=>exact⟨_,rfl,fun h=>(by cases h)⟩
 |
  true=>
  rw[if_neg (by decide)]
  obtain⟨hr,hmg⟩:=hy rfl
  obtain⟨lo,hcg⟩:=hc (of_decide_eq_true hr)
  have hw:=XX hcg hT hf p (a,(p,((0:Int),()))) hix
  refine gN.2 ((lookk_eq hw d k (decide (r=(0:Int))) m () (a,(p,((0:Int),()))) (FI.nil _ _ _) (List.mem_cons_self ..) (List.mem_cons_of_mem _ (List.mem_cons_self ..))).mono fun x hx=>?_)
  obtain⟨fo',se',x',rs',rfl,_,_⟩:=hx
  refine⟨_,rfl,fun _=>?_⟩
  obtain⟨u,hu,rfl⟩:=hm a hmg
  have hR:=hcg.tg.rules u hu
  exact⟨u,hu,rfl,hR.h0,hR.h1⟩
theorem of_eq(w:bL)(hs:SA w.1.1)(hT:FT w.1.1)(hf:w.2.1.length≤30)(a p d k:Int):
 ∃rs ok x,f34 w a p d k=some (rs,ok,x)∧(ok=true→∃u∈w.1.1.2.2.2.1,u.2.1=a∧0≤a∧a<(w.1.1.2.2.1.length:Int)):=by
 obtain⟨r,e,h⟩:=BW w hs hT hf a p d k
 unfold f34
 rw[e,Option.bind_some]
 exact⟨_,_,_,rfl,h⟩
theorem has_eq(l:Zm)(a:Int)(hl:l.length≤aC):∃b,oX l a=some b∧(b=true↔∃u∈l,u.2.1=a):=by
 obtain⟨r,e,h⟩:=OG (E:=Int) bu (fun x y=>tY x y) l a (fun u=>decide (u.2.1=a)) (fun x _=>rfl) hl
 have e':tZ l a=some r:=e
 unfold oX
 rw[e',Option.bind_some]
 refine⟨_,rfl,?_⟩
 rw[decide_eq_true_eq,h]
 constructor
 ·rintro⟨u,hu,hq⟩;exact⟨u,hu,of_decide_eq_true hq⟩
 ·rintro⟨u,hu,hq⟩;exact⟨u,hu,decide_eq_true hq⟩
theorem w9(s:cK)(hl:s.2.2.2.1.length≤aC)(a:Int):
 (f66 s a=some 1∧0≤a∧a<(s.2.2.1.length:Int)∧∃u∈s.2.2.2.1,u.2.1=a)∨(f66 s a=some 0∧¬(0≤a∧a<(s.2.2.1.length:Int)∧∃u∈s.2.2.2.1,u.2.1=a)):=by
 unfold f66
 by_cases h0:0≤a
 ·rw[if_pos (decide_eq_true h0)]
  by_cases h1:a<(s.2.2.1.length:Int)
  ·rw[if_pos (decide_eq_true h1)]
   obtain⟨b,e,hb⟩:=has_eq s.2.2.2.1 a hl
   rw[e]
   cases b with
   |true=>exact Or.inl ⟨rfl,h0,h1,hb.1 rfl⟩
   |false=>exact Or.inr ⟨rfl,fun h=>by cases hb.2 h.2.2⟩
  ·rw[if_neg (show¬decide (a<(s.2.2.1.length:Int))=true by simpa using h1)]
   exact Or.inr ⟨rfl,fun h=>h1 h.2.1⟩
 ·rw[if_neg (show¬decide ((0:Int)≤a)=true by simpa using h0)]
  exact Or.inr ⟨rfl,fun h=>h0 h.1⟩
theorem rW(s:cK)(hl:s.2.2.2.1.length≤aC)(a:Int):∃b,f32 s a=some b∧(b=true↔∃u∈s.2.2.2.1,u.2.1=a):=by
 have hB:=hB
 suffices hW:W (f32 s a) fun b=>b=true↔∃u∈s.2.2.2.1,u.2.1=a by
  obtain⟨r,e,h⟩:=hW
  exact⟨r,e,h⟩
 unfold f32
 refine bQ.2 (W.ct (ck (L:=Cj) rfl (CT (fun _=>∀j(hj:j<s.2.2.2.1.length),s.2.2.2.1[j].2.1≠a) fun r=>r=true∧∃u∈s.2.2.2.1,u.2.1=a) s.2.2.2.1.length (fun c(_:Unit)=>(a,(c:Int),s)) (fun c _=>∀j(hj:j<s.2.2.2.1.length),j<c→s.2.2.2.1[j].2.1≠a) ?step ?stop ff 0 () (by show _<18446744073709551616;omega) (by omega) (fun j _ h=>absurd h (Nat.not_lt_zero _))) (fun d hd=>?_) fun r hr=>?_)
 case step=>
  intro rec c _ hc hI kk
  dsimp only
  have hw2:aV ((c:Int)+(1:Int))=((c+1:Nat):Int):=aJ (by omega)
  have hcc:(c:Int)<(s.2.2.2.1.length:Int):=by omega
  rw[if_pos (decide_eq_true hcc),if_pos (Int.natCast_nonneg c),if_pos hcc,db (t:=bu) hc]
  by_cases e:s.2.2.2.1[c].2.1=a
  ·rw[if_pos (decide_eq_true e)]
   exact⟨_,rfl,rfl,_,List.getElem_mem hc,e⟩
  ·rw[if_neg (show¬decide (s.2.2.2.1[c].2.1=a)=true by simpa using e),hw2]
   refine kk () fun j hj hjc=>?_
   by_cases e2:j=c
   ·subst e2;exact e
   ·exact hI j hj (by omega)
 case stop=>
  intro rec _ hI
  dsimp only
  rw[if_neg (by simp only[decide_eq_true_eq];omega)]
  exact⟨_,rfl,fun j hj=>hI j hj hj⟩
 ·refine⟨false,rfl,fun h=>(by cases h),?_⟩
  rintro⟨u,hu,e⟩
  obtain⟨j,hj,rfl⟩:=List.getElem_of_mem hu
  exact absurd e (hd j hj)
 ·obtain⟨rfl,h⟩:=hr
  exact⟨fun _=>h,fun _=>rfl⟩
theorem BX(v:bL)(hR:v.1.1.2.2.2.1.length≤aC)(a p i d k:Int)(h:¬(0≤a∧a<(v.1.1.2.2.1.length:Int))):∃x rs,f33 v a p i d k=some (false,x,rs):=by
 unfold f33
 obtain⟨b,e,hb⟩:=recorded_eq v.1.1 hR a
 rw[e,Option.bind_some]
 cases b with
 |false=>exact⟨_,_,rfl⟩
 |true=>exact absurd ⟨(hb rfl).1,(hb rfl).2.1⟩ h
theorem BY(w:bL)(hs:SA w.1.1)(hT:FT w.1.1)(hf:w.2.1.length≤30)(a p i d k:Int):∃ok x rs,f33 w a p i d k=some (ok,x,rs):=by
 have hB:=hB
 obtain⟨⟨ok,x,rs⟩,e,_⟩:=recAt_eq (PS:=Ey w p) w hs.sw.nb hs.sw.rules (fun a a0 a1=>Nat.le_trans (hT.fields _ (da (t:=bB) (l:=w.1.1.2.2.1) a0 a1)) (by decide)) (by omega) (fun f hf=>List.mem_cons_of_mem _ (List.mem_cons_of_mem _ (List.mem_append_left _ (List.mem_map.2 ⟨f,hf,rfl⟩)))) a p i d k (List.mem_cons_of_mem _ (List.mem_cons_self ..))
 exact⟨ok,x,rs,e⟩
theorem AX(w:bL)(hs:SA w.1.1)(hT:FT w.1.1)(hf:w.2.1.length≤30)(a p i d k:Int):
 ∃rs ok x rs' x',f39 w a p i d k=some (rs,ok,x)∧f15 w a p i d k=some (rs',ok,x')∧(ok=true→x=x'):=by
 unfold f39 f15
 obtain⟨b,e2,hb⟩:=rW w.1.1 hs.sw.rules a
 rw[e2,Option.bind_some]
 obtain⟨ok,x,rs,e4⟩:=BY w hs hT hf a p i d k
 obtain⟨rs1,ok1,x1,e5,h5⟩:=of_eq w hs hT hf a p d k
 rcases w9 w.1.1 hs.sw.rules a with⟨e1,a0,a1,hu⟩|⟨e1,hn⟩
 ·rw[e1,Option.bind_some,if_pos (by decide),if_pos (by decide),if_neg (by decide),if_pos rfl]
  have:b=true:=hb.2 hu
  subst this
  rw[if_neg (by decide)]
  unfold f65
  by_cases hi:i=0
  ·rw[if_neg (show¬(!decide (i=(0:Int)))=true by simp[hi]),e5]
   exact⟨_,_,_,_,_,rfl,rfl,fun _=>rfl⟩
  ·rw[if_pos (show(!decide (i=(0:Int)))=true by simp[hi])]
   exact⟨_,_,_,_,_,rfl,rfl,fun _=>rfl⟩
 ·rw[e1,Option.bind_some,if_pos (by decide),if_pos (by decide),if_pos rfl]
  cases b with
  |
   false=>
   rw[if_pos (by decide),e4]
   exact⟨_,_,_,_,_,rfl,rfl,fun _=>rfl⟩
  |
   true=>
   have hu:=hb.1 rfl
   have hout:¬(0≤a∧a<(w.1.1.2.2.1.length:Int)):=fun h=>hn ⟨h.1,h.2,hu⟩
   obtain⟨x2,rs2,e6⟩:=BX w hs.sw.rules a p i d k hout
   rw[e6,if_neg (by decide)]
   by_cases hi:i=0
   ·rw[if_neg (show¬(!decide (i=(0:Int)))=true by simp[hi]),e5]
    cases ok1 with
    |false=>exact⟨_,_,_,_,_,rfl,rfl,fun h=>(by cases h)⟩
    |
     true=>
     obtain⟨_,_,_,a0,a1⟩:=h5 rfl
     exact absurd ⟨a0,a1⟩ hout
   ·rw[if_pos (show(!decide (i=(0:Int)))=true by simp[hi])]
    exact⟨_,_,_,_,_,rfl,rfl,fun h=>(by cases h)⟩
abbrev eZ(p:jJ):Zf:=p.2.2.2.2.2.2.2.1
abbrev MH(p:jJ):Zf:=p.2.2.2.2.2.2.2.2.1
structure lP(p:jJ):Prop where
 pos:∀j<(eZ p).length,0≤nth (.int .i64) (eZ p) (j:Int)
 len:(eZ p).length=(MH p).length
theorem XY{v d:Int}(h:¬v≤d)(hd:-1≤d):0≤v:=by omega
theorem XZ{v d:Int}(h:¬v≤d)(hd:-1≤d):-1≤v:=by omega
theorem BZ(p:jJ)(hl:(eZ p).length≤aC):∃r,f20 p=some r∧(r=true→lP p):=by
 have hB:=hB
 suffices hW:W (f20 p) fun r=>r=true→lP p by
  obtain⟨r,e,h⟩:=hW
  exact⟨r,e,h⟩
 unfold f20
 refine bQ.2 (W.ct (ck (L:=Db) rfl (CT (fun d=>d=p∧∀j<(eZ p).length,0≤nth (.int .i64) (eZ p) (j:Int)) fun r=>r=false) (eZ p).length (fun c(d:Int)=>(d,eZ p,((eZ p).length:Int),(c:Int),p)) (fun c d=>-1≤d∧∀j<c,0≤nth (.int .i64) (eZ p) (j:Int)) ?step ?stop _ 0 (-1) (show(eZ p).length -0<Int.toNat ((eZ p).length:Int)+1 by omega) (by omega) ⟨Int.le_refl _,fun j hj=>absurd hj (Nat.not_lt_zero _)⟩) (fun d hd=>?_) fun r hr=>?_)
 case step=>
  rintro rec c d hc ⟨hd,hI⟩ kk
  dsimp only
  have hw2:aV ((c:Int)+(1:Int))=((c+1:Nat):Int):=aJ (by omega)
  have hcc:(c:Int)<((eZ p).length:Int):=by omega
  rw[if_pos (decide_eq_true hcc),if_pos (Int.natCast_nonneg c),if_pos hcc]
  by_cases h:nth (.int .i64) (eZ p) (c:Int)≤d
  ·rw[if_pos (decide_eq_true h)];exact⟨_,rfl,rfl⟩
  ·rw[if_neg (fun h'=>h (of_decide_eq_true h')),hw2]
   refine kk _ ⟨XZ h hd,fun j hj=>?_⟩
   by_cases e:j=c
   ·subst e;exact XY h hd
   ·exact hI j (by omega)
 case stop=>
  rintro rec d ⟨hd,hI⟩
  dsimp only
  rw[if_neg (by simp only[decide_eq_true_eq];omega)]
  exact⟨_,rfl,rfl,hI⟩
 ·obtain⟨rfl,h⟩:=hd
  exact⟨_,rfl,fun hr=>⟨h,by have h2:((eZ d).length:Int)=((MH d).length:Int):=of_decide_eq_true hr;omega⟩⟩
 ·subst hr;exact fun h=>(by cases h)
def bad(ok:Bool)(xs:Zf)(p:jJ)(j:Nat):Bool:= !(ok&&decide (nth (.int .i64) (eZ p) (j:Int)<(xs.length:Int))&&decide (nth (.int .i64) xs (nth (.int .i64) (eZ p) (j:Int))=nth (.int .i64) (MH p) (j:Int)))
def WL(ok:Bool)(xs:Zf)(p:jJ):Nat→Zf
 |0=>[]
 |n+1=>WL ok xs p n++if bad ok xs p n=true then[nth (.int .i64) (eZ p) (n:Int)] else[]
theorem zd(ok:Bool)(xs:Zf)(p:jJ):∀n,(WL ok xs p n).length≤n
 |0=>Nat.le_refl _
 |
  n+1=>by
  have:=zd ok xs p n
  unfold WL
  rw[List.length_append]
  split<;>simp<;>omega
theorem D0(ok:Bool)(xs:Zf)(p:jJ)(m:Nat):∀n,m≤n→∃t,WL ok xs p n=WL ok xs p m++t
 |0,h=>⟨[],by
  have:m=0:=by omega
  subst this;rw[List.append_nil]⟩
 |
  n+1,h=>by
  by_cases e:m=n+1
  ·subst e;exact⟨[],(List.append_nil _).symm⟩
  ·obtain⟨t,ht⟩:=D0 ok xs p m n (by omega)
   exact⟨t++if bad ok xs p n=true then[nth (.int .i64) (eZ p) (n:Int)] else[],by rw[←List.append_assoc,←ht];rfl⟩
theorem qW(w:bL)(p:jJ)(k:Int)(hp:lP p)(hl:(eZ p).length≤16){rs:Zh}{ok:Bool}{x:nD}(hx:f39 w p.2.2.1 p.2.2.2.1 p.2.2.2.2.1 p.2.2.2.2.2.1 k=some (rs,ok,x)):
 f21 w p k=some (WL ok x.2.2.2.1 p (eZ p).length,rs,ok):=by
 have hB:=hB
 suffices hW:W (f21 w p k) fun r=>r=(WL ok x.2.2.2.1 p (eZ p).length,rs,ok) by
  obtain⟨r,e,rfl⟩:=hW
  exact e
 unfold f21
 rw[hx,Option.bind_some]
 refine bQ.2 (W.ct (ck (L:=Ek) rfl (CT (fun d=>d=(rs,ok,WL ok x.2.2.2.1 p (eZ p).length)) fun _=>False) (eZ p).length (fun c(g:Zf)=>(rs,ok,eZ p,((eZ p).length:Int),(c:Int),p,x,g)) (fun c g=>g=WL ok x.2.2.2.1 p c) ?step ?stop _ 0 [] (show(eZ p).length -0<Int.toNat ((eZ p).length:Int)+1 by omega) (by omega) rfl) (fun d hd=>?_) fun r hr=>hr.elim)
 case step=>
  intro rec c g hc hg kk
  subst hg
  dsimp only
  have hw2:aV ((c:Int)+(1:Int))=((c+1:Nat):Int):=aJ (by omega)
  have hcc:(c:Int)<((eZ p).length:Int):=by omega
  have h0:=hp.pos c hc
  have hlv:(c:Int)<((MH p).length:Int):=by rw[←hp.len];exact hcc
  have hlen:=zd ok x.2.2.2.1 p c
  rw[if_pos (decide_eq_true hcc),if_pos (Int.natCast_nonneg c),if_pos hcc]
  have key:∀b:Bool,b=bad ok x.2.2.2.1 p c→W (if b=true then(if(List.length (WL ok x.2.2.2.1 p c)+List.length [nth (.int .i64) (eZ p) (c:Int)])*8≤aC then(rec (rs,ok,eZ p,((eZ p).length:Int),aV ((c:Int)+(1:Int)),p,x,WL ok x.2.2.2.1 p c++[nth (.int .i64) (eZ p) (c:Int)])) else none) else(rec (rs,ok,eZ p,((eZ p).length:Int),aV ((c:Int)+(1:Int)),p,x,WL ok x.2.2.2.1 p c))) (CT (fun d=>d=(rs,ok,WL ok x.2.2.2.1 p (eZ p).length)) fun _=>False):=fun b hb=>by
   subst hb
   rw[hw2]
   cases hbad:bad ok x.2.2.2.1 p c with
   |
    true=>
    rw[if_pos rfl,if_pos (by rw[List.length_singleton];omega)]
    exact kk _ (by show _=WL ok x.2.2.2.1 p c++_;rw[if_pos hbad])
   |
    false=>
    rw[if_neg (by decide)]
    exact kk _ (by show _=WL ok x.2.2.2.1 p c++_;rw[if_neg (by rw[hbad];decide),List.append_nil])
  cases ok with
  |false=>exact key true rfl
  |
   true=>
   rw[if_neg (by decide)]
   by_cases h1:(x.2.2.2.1.length:Int)≤nth (.int .i64) (eZ p) (c:Int)
   ·rw[if_pos (decide_eq_true h1)]
    refine key true ?_
    unfold bad
    rw[decide_eq_false (show¬nth (.int .i64) (eZ p) (c:Int)<(x.2.2.2.1.length:Int) from Int.not_lt.2 h1)]
    rfl
   ·have h2:nth (.int .i64) (eZ p) (c:Int)<(x.2.2.2.1.length:Int):=Int.not_le.1 h1
    rw[if_neg (fun h'=>h1 (of_decide_eq_true h')),if_pos h0,if_pos h2,if_pos (Int.natCast_nonneg c),if_pos hlv]
    refine key _ ?_
    unfold bad
    rw[decide_eq_true h2]
    rfl
 case stop=>
  rintro rec g rfl
  dsimp only
  rw[if_neg (by simp only[decide_eq_true_eq];omega)]
  exact⟨_,rfl,rfl⟩
 ·subst hd;exact⟨_,rfl,rfl⟩
theorem true_eq(w:bL)(p:jJ)(k:Int)(hl:(eZ p).length≤16){rs:Zh}{ok:Bool}{x:nD}(hx:f39 w p.2.2.1 p.2.2.2.1 p.2.2.2.2.1 p.2.2.2.2.2.1 k=some (rs,ok,x)):
 ∃b r,f8 w p k=some (b,r)∧(b=true→lP p)∧(lP p→f20 p=some true→b=(ok&&decide (WL ok x.2.2.2.1 p (eZ p).length= [])))∧(b=true→f20 p=some true):=by
 have hB:=hB
 unfold f8
 obtain⟨r,e,hr⟩:=BZ p (by omega)
 rw[e,Option.bind_some]
 cases r with
 |false=>exact⟨false,_,rfl,fun h=>(by cases h),fun _ h=>(by cases h),fun h=>(by cases h)⟩
 |
  true=>
  have hp:=hr rfl
  rw[if_neg (by decide),qW w p k hp hl hx,Option.bind_some]
  dsimp only
  have ed:decide (((WL ok x.2.2.2.1 p (eZ p).length).length:Int)=(0:Int))=decide (WL ok x.2.2.2.1 p (eZ p).length= []):=by
   cases WL ok x.2.2.2.1 p (eZ p).length with
   |nil=>rfl
   |cons a l=>simp;omega
  cases ok with
  |false=>exact⟨false,_,rfl,fun h=>(by cases h),fun _ _=>rfl,fun h=>(by cases h)⟩
  |
   true=>
   rw[if_pos rfl,ed]
   exact⟨_,_,rfl,fun _=>hp,fun _ _=>rfl,fun _=>rfl⟩
def tB(w:bL)(k:Int)(p:jJ):Bool:=((f8 w p k).map fun x=>x.1).getD false
def zL(w:bL)(k:Int)(p:jJ):Zf:=((f21 w p k).map fun x=>x.1).getD []
def Ez(w:bL)(b a:Int)(p:jJ):Bool:=tB w b p&& !tB w a p
def nt(w:bL)(a:Int)(p:jJ):VY:=(p.1,(p.2.1,(zL w a p,())))
def AN(w:bL)(b a:Int)(l:ZC):ZD:=(l.filter (Ez w b a)).map (nt w a)
theorem xa(xs ys:Zf)(p:jJ):∀n,WL false xs p n=WL false ys p n
 |0=>rfl
 |
  n+1=>by
  show WL false xs p n++_=WL false ys p n++_
  rw[xa xs ys p n]
  rfl
structure PP(w:bL)(b a:Int)(p:jJ):Prop where
 Z8:∃r,f8 w p b=some (tB w b p,r)
 is:∃r,f8 w p a=some (tB w a p,r)
 more:tB w b p=true→lP p∧∃rs' ok x' rs,f15 w p.2.2.1 p.2.2.2.1 p.2.2.2.2.1 p.2.2.2.2.2.1 a=some (rs',ok,x')∧f21 w p a=some (zL w a p,rs,ok)∧zL w a p=WL ok x'.2.2.2.1 p (eZ p).length∧((ok=false∨0<(zL w a p).length)↔tB w a p=false)
theorem MI(w:bL)(hs:SA w.1.1)(hT:FT w.1.1)(hf:w.2.1.length≤30)(b a:Int)(p:jJ)(hl:(eZ p).length≤16):PP w b a p:=by
 obtain⟨rs1,ok1,x1,rs1',x1',c1,d1,s1⟩:=AX w hs hT hf p.2.2.1 p.2.2.2.1 p.2.2.2.2.1 p.2.2.2.2.2.1 b
 obtain⟨rs2,ok2,x2,rs2',x2',c2,d2,s2⟩:=AX w hs hT hf p.2.2.1 p.2.2.2.1 p.2.2.2.2.1 p.2.2.2.2.2.1 a
 obtain⟨b1,r1,e1,f1,g1,k1⟩:=true_eq w p b hl c1
 obtain⟨b2,r2,e2,f2,g2,k2⟩:=true_eq w p a hl c2
 have t1:tB w b p=b1:=by unfold tB;rw[e1];rfl
 have t2:tB w a p=b2:=by unfold tB;rw[e2];rfl
 refine⟨⟨r1,by rw[t1];exact e1⟩,⟨r2,by rw[t2];exact e2⟩,fun h=>?_⟩
 rw[t1] at h
 have hp:=f1 h
 have e3:=qW w p a hp hl c2
 have z:zL w a p=WL ok2 x2.2.2.2.1 p (eZ p).length:=by unfold zL;rw[e3];rfl
 refine⟨hp,rs2',ok2,x2',rs2,d2,by rw[z];exact e3,?_,?_⟩
 ·rw[z]
  cases ok2 with
  |false=>exact xa _ _ _ _
  |true=>rw[s2 rfl]
 ·rw[z,t2,g2 hp (k1 h)]
  cases ok2 with
  |false=>exact⟨fun _=>rfl,fun _=>Or.inl rfl⟩
  |
   true=>
   cases WL true x2.2.2.2.1 p (eZ p).length with
   |nil=>exact⟨fun h=>h.elim (fun h=>by cases h) (fun h=>absurd h (Nat.lt_irrefl _)),fun h=>by cases h⟩
   |cons y ys=>exact⟨fun _=>rfl,fun _=>Or.inr (Nat.zero_lt_succ _)⟩
theorem vb(w:bL)(b a:Int)(p:jJ)(l:ZC):AN w b a (p::l)=(if Ez w b a p=true then[nt w a p] else[])++AN w b a l:=by
 unfold AN
 rw[List.filter_cons]
 split
 ·rw[List.map_cons];rfl
 ·rfl
theorem sM(w:bL)(b a:Int)(l m:ZC):AN w b a (l++m)=AN w b a l++AN w b a m:=by
 unfold AN
 rw[List.filter_append,List.map_append]
theorem JV(w:bL)(b a:Int)(l:ZC):(AN w b a l).length≤l.length:=by
 unfold AN
 rw[List.length_map]
 exact List.length_filter_le ..
theorem AY(w:bL)(b a:Int):∀(l:ZC)(acc:ZD),(∀p∈l,PP w b a p)→(acc.length+l.length)*40≤aC→vq w b a l acc=some (acc++AN w b a l)
 |
  [],acc,_,_=>by
  show some acc=_
  unfold AN
  rw[List.filter_nil,List.map_nil,List.append_nil]
 |
  p::l,acc,hp,hb=>by
  obtain⟨⟨r1,e1⟩,⟨r2,e2⟩,hm⟩:=hp p (List.mem_cons_self ..)
  have ih:=fun acc=>AY w b a l acc (fun q hq=>hp q (List.mem_cons_of_mem _ hq))
  rw[List.length_cons] at hb
  unfold vq
  rw[e1,Option.bind_some,vb]
  unfold Ez
  cases h1:tB w b p with
  |
   false=>
   rw[if_pos rfl,if_neg (by simp),List.nil_append]
   exact ih acc (by omega)
  |
   true=>
   rw[if_neg (by simp)]
   obtain⟨_,rs',ok,x',rs,_,e3,_,hk⟩:=hm h1
   rw[e3,Option.bind_some]
   cases h2:tB w a p with
   |
    false=>
    rw[if_pos (hk.2 h2),if_pos (by omega),if_pos (show(true&& !false)=true from rfl),ih _ (by rw[List.length_append,List.length_singleton];omega),List.append_assoc]
    rfl
   |
    true=>
    rw[if_neg (fun h=>by have:=hk.1 h;rw[h2] at this;cases this),if_neg (by simp),List.nil_append]
    exact ih acc (by omega)
theorem ze(w:bL)(b a:Int)(l:ZC)(hp:∀p∈l,PP w b a p)(hl:l.length≤6):xl w l b a=some (AN w b a l):=by
 have hB:=hB
 unfold xl
 rw[if_pos (by omega),AY w b a l [] hp (by rw[List.length_nil];omega),List.nil_append]
theorem xb(w:bL)(b a:Int)(l:ZC)(i:Nat)(h:i<l.length):AN w b a l=AN w b a (l.take i)++((if Ez w b a l[i]=true then[nt w a l[i]] else[])++AN w b a (l.drop (i+1))):=by
 rw[←vb,←List.drop_eq_getElem_cons h,←sM,List.take_append_drop]
theorem AZ(w:bL)(b a:Int)(l:ZC)(i:Nat)(h:i<l.length):AN w b a (l.take (i+1))=AN w b a (l.take i)++if Ez w b a l[i]=true then[nt w a l[i]] else[]:=by
 rw[List.take_succ_eq_append_getElem h,sM,vb]
 congr 1
 exact List.append_nil _
theorem A0{t:Ty}(x:List t.den)(y:t.den)(z:List t.den):nth t (x++(y::z)) (x.length:Int)=y:=by
 rw[db (t:=t) (show x.length<(x++(y::z)).length by rw[List.length_append,List.length_cons];omega),List.getElem_append_right (Nat.le_refl _)]
 simp only[Nat.sub_self,List.getElem_cons_zero]
theorem MJ(w:bL)(b a:Int)(l:ZC)(i:Nat)(h:i<l.length)(ha:Ez w b a l[i]=true):
 (AN w b a (l.take i)).length<(AN w b a l).length∧nth gH (AN w b a l) ((AN w b a (l.take i)).length:Int)=nt w a l[i]∧(AN w b a (l.take (i+1))).length=(AN w b a (l.take i)).length+1:=by
 refine⟨?_,?_,?_⟩
 ·rw[xb w b a l i h,if_pos ha,List.length_append,List.length_append,List.length_singleton];omega
 ·rw[xb w b a l i h,if_pos ha]
  exact A0 (t:=gH) _ _ _
 ·rw[AZ w b a l i h,if_pos ha,List.length_append,List.length_singleton]
theorem D1(w:bL)(b a:Int)(l:ZC)(n:ZD)(at' i:Int)(ok:Bool)(p:jJ)(x:nD)(hp:lP p)(hl:(eZ p).length≤16)(h0:0≤at')(h1:at'<(n.length:Int))(hn:(nth gH n at').2.2.1=WL ok x.2.2.2.1 p (eZ p).length):
 W (xB ff (l,b,a,n,at',i,ok,(0:Int),(0:Int),w,p,x)) (CT (fun d=>d=(l,b,a,n,at',i,ok,((WL ok x.2.2.2.1 p (eZ p).length).length:Int),w)) fun _=>False):=by
 refine ck (L:=xB) rfl _ (eZ p).length (fun m(_:Unit)=>(l,b,a,n,at',i,ok,((WL ok x.2.2.2.1 p m).length:Int),(m:Int),w,p,x)) (fun _ _=>True) ?step ?stop ff 0 () (by show _<18446744073709551616;omega) (by omega) trivial
 case step=>
  intro rec c _ hc _ kk
  dsimp only
  have hw2:aV ((c:Int)+(1:Int))=((c+1:Nat):Int):=aJ (by omega)
  have hcc:(c:Int)<((eZ p).length:Int):=by omega
  have hcv:(c:Int)<((MH p).length:Int):=by rw[←hp.len];exact hcc
  have f0:=hp.pos c hc
  have hlen:=zd ok x.2.2.2.1 p c
  have hw3:aV (((WL ok x.2.2.2.1 p c).length:Int)+(1:Int))=(((WL ok x.2.2.2.1 p c).length+1:Nat):Int):=aJ (by omega)
  rw[if_pos (decide_eq_true hcc),if_pos (Int.natCast_nonneg c),if_pos hcc]
  have kk:=kk () trivial
  have key:∀y:Zk,y=some (!bad ok x.2.2.2.1 p c)→W (aE (U:=ZC×Int×Int×ZD×Int×Int×Bool×Int×Int×Int×bL×jJ×nD) (Option.bind (α:=Bool) y fun v19=>if v19=true then(bP (rec (l,b,a,n,at',i,ok,((WL ok x.2.2.2.1 p c).length:Int),aV ((c:Int)+(1:Int)),w,p,x))) else(some (.brk (l,b,a,n,at',i,ok,((WL ok x.2.2.2.1 p c).length:Int),(c:Int),nth (.int .i64) (eZ p) (c:Int),w,p,x)))) fun⟨e,f,g,b,a,h,i,c,j,d,k,l,m⟩=>Option.bind (α:=Bool) (if 0≤a then(if a<(List.length b:Int) then(if(decide ((List.length ((((nth gH b a).2).2).1):Int)≤c))=true then(some true) else(if 0≤a then(if a<(List.length b:Int) then(if 0≤c then(if c<(List.length ((((nth gH b a).2).2).1):Int) then(some (!decide ((nth (.int .i64) ((((nth gH b a).2).2).1) c)=d))) else none) else none) else none) else none)) else none) else none) fun v20=>if v20=true then(bP (bP (bP (some false)))) else(rec (e,f,g,b,a,h,i,aV (c+(1:Int)),aV (j+(1:Int)),k,l,m)))
   (CT (fun d=>d=(l,b,a,n,at',i,ok,((WL ok x.2.2.2.1 p (eZ p).length).length:Int),w)) fun _=>False):=fun y hy=>by
   subst hy
   rw[Option.bind_some]
   cases hb:bad ok x.2.2.2.1 p c with
   |
    false=>
    rw[if_pos (show(!false)=true from rfl)]
    refine bQ.2 (OF.2 ?_)
    have e:WL ok x.2.2.2.1 p (c+1)=WL ok x.2.2.2.1 p c:=by show WL ok x.2.2.2.1 p c++_=_;rw[if_neg (by rw[hb];decide),List.append_nil]
    rw[e] at kk
    rw[hw2]
    exact kk
   |
    true=>
    rw[if_neg (by decide),aG]
    dsimp only
    have e:WL ok x.2.2.2.1 p (c+1)=WL ok x.2.2.2.1 p c++[nth (.int .i64) (eZ p) (c:Int)]:=by show WL ok x.2.2.2.1 p c++_=_;rw[if_pos hb]
    obtain⟨t,ht⟩:=D0 ok x.2.2.2.1 p (c+1) (eZ p).length hc
    rw[e,List.append_assoc] at ht
    have hlt:(((WL ok x.2.2.2.1 p c).length:Int))<(((WL ok x.2.2.2.1 p (eZ p).length).length:Nat):Int):=by
     rw[ht,List.length_append]
     simp only[List.cons_append,List.nil_append,List.length_cons]
     omega
    have hat:nth (.int .i64) (WL ok x.2.2.2.1 p (eZ p).length) ((WL ok x.2.2.2.1 p c).length:Int)=nth (.int .i64) (eZ p) (c:Int):=by
     rw[ht];exact A0 (t:=.int .i64) _ _ _
    rw[hn,if_pos h0,if_pos h1,if_neg (fun h'=>Int.not_lt.2 (of_decide_eq_true h') hlt),if_pos h0,if_pos h1,if_pos (Int.natCast_nonneg _),if_pos hlt,hat,Option.bind_some]
    rw[if_neg (by simp),hw2,hw3]
    rw[e,List.length_append,List.length_singleton] at kk
    exact kk
  cases ok with
  |false=>exact key _ rfl
  |
   true=>
   rw[if_pos rfl,if_pos (decide_eq_true f0)]
   by_cases h2:nth (.int .i64) (eZ p) (c:Int)<(x.2.2.2.1.length:Int)
   ·rw[if_pos (decide_eq_true h2),if_pos f0,if_pos h2,if_pos (Int.natCast_nonneg c),if_pos hcv]
    refine key _ ?_
    unfold bad
    rw[decide_eq_true h2]
    simp only[Bool.and_self,Bool.true_and,Bool.not_not]
   ·rw[if_neg (fun h'=>h2 (of_decide_eq_true h'))]
    refine key _ ?_
    unfold bad
    rw[decide_eq_false h2]
    rfl
 case stop=>
  intro rec _ _
  dsimp only
  rw[if_neg (fun h'=>by have:=of_decide_eq_true h';exact Int.lt_irrefl _ this)]
  exact⟨_,rfl,rfl⟩
theorem D2(w:bL)(b a:Int)(l:ZC)(hl:l.length≤6)(hp:∀p∈l,PP w b a p∧(eZ p).length≤16):
 W (Ck ff (l,b,a,AN w b a l,(0:Int),(0:Int),w)) (CT (fun d=>d=(AN w b a l,((AN w b a l).length:Int))) fun _=>False):=by
 have hB:=hB
 refine ck (L:=Ck) rfl _ l.length (fun i(_:Unit)=>(l,b,a,AN w b a l,((AN w b a (l.take i)).length:Int),(i:Int),w)) (fun _ _=>True) ?step ?stop ff 0 () (by show _<18446744073709551616;omega) (by omega) trivial
 case step=>
  intro rec c _ hc _ kk
  dsimp only
  have hw2:aV ((c:Int)+(1:Int))=((c+1:Nat):Int):=aJ (by omega)
  have hcc:(c:Int)<(l.length:Int):=by omega
  obtain⟨⟨⟨r1,e1⟩,⟨r2,e2⟩,hm⟩,hpl⟩:=hp _ (List.getElem_mem hc)
  have kk:=kk () trivial
  rw[if_pos (decide_eq_true hcc),if_pos (Int.natCast_nonneg c),if_pos hcc,db (t:=fg) hc]
  refine bQ.2 ?_
  rw[e1,Option.bind_some]
  dsimp only
  rw[e2,Option.bind_some]
  dsimp only
  cases ha:Ez w b a l[c] with
  |
   false=>
   have ht:AN w b a (l.take (c+1))=AN w b a (l.take c):=by rw[AZ w b a l c hc,if_neg (by rw[ha];decide),List.append_nil]
   rw[ht] at kk
   have fin:W (rec (l,b,a,AN w b a l,((AN w b a (l.take c)).length:Int),aV ((c:Int)+(1:Int)),w)) (CT (fun d=>d=(AN w b a l,((AN w b a l).length:Int))) fun _=>False):=by rw[hw2];exact kk
   unfold Ez at ha
   cases h1:tB w b l[c] with
   |
    false=>
    rw[if_pos (show(!false)=true from rfl),Option.bind_some,if_pos rfl]
    exact⟨_,rfl,fin⟩
   |
    true=>
    rw[h1] at ha
    have h2:tB w a l[c]=true:=by
     cases h2:tB w a l[c] with
     |true=>rfl
     |false=>rw[h2] at ha;cases ha
    rw[if_neg (by decide),h2,Option.bind_some,if_pos rfl]
    exact⟨_,rfl,fin⟩
  |
   true=>
   obtain⟨q1,q2,q3⟩:=MJ w b a l c hc ha
   have h1:tB w b l[c]=true:=by
    unfold Ez at ha
    cases h1:tB w b l[c] with
    |true=>rfl
    |false=>rw[h1] at ha;cases ha
   have h2:tB w a l[c]=false:=by
    unfold Ez at ha
    cases h2:tB w a l[c] with
    |false=>rfl
    |true=>rw[h1,h2] at ha;cases ha
   obtain⟨hpf,rs',ok,x',rs,e3,_,e5,hk⟩:=hm h1
   have i0:(0:Int)≤((AN w b a (l.take c)).length:Int):=Int.natCast_nonneg _
   have i1:((AN w b a (l.take c)).length:Int)<((AN w b a l).length:Int):=by omega
   have hfl:((List.length l[c].2.2.2.2.2.2.2.1:Nat):Int)=((List.length l[c].2.2.2.2.2.2.2.2.1:Nat):Int):=by
    have:=hpf.len
    exact congrArg Nat.cast this
   rw[h1,h2,if_neg (by decide),Option.bind_some,if_neg (by decide),aG]
   dsimp only
   rw[if_neg (fun h'=>Int.not_lt.2 (of_decide_eq_true h') i1),if_pos i0,if_pos i1,q2]
   have n1:(nt w a l[c]).1=l[c].1:=rfl
   have n2:(nt w a l[c]).2.1=l[c].2.1:=rfl
   have n3:(nt w a l[c]).2.2.1=zL w a l[c]:=rfl
   rw[n1,if_neg (show¬(!decide (l[c].1=l[c].1))=true by simp),if_pos i0,if_pos i1,n2,if_neg (show¬(!decide (l[c].2.1=l[c].2.1))=true by simp),decide_eq_true hfl,Option.bind_some,if_neg (by decide),aG]
   dsimp only
   rw[e3,Option.bind_some]
   dsimp only
   have hin:=D1 w b a l (AN w b a l) ((AN w b a (l.take c)).length:Int) (c:Int) ok l[c] x' hpf hpl i0 i1 (by rw[q2,n3];exact e5)
   refine bQ.2 (hin.ct (fun d hd=>?_) fun r hr=>hr.elim)
   subst hd
   dsimp only
   rw[q2,n3,←e5,if_pos i0,if_pos i1,if_neg (show¬(!decide (((zL w a l[c]).length:Int)=((zL w a l[c]).length:Int)))=true by simp)]
   have hw4:aV (((AN w b a (l.take c)).length:Int)+(1:Int))=(((AN w b a (l.take c)).length+1:Nat):Int):=aJ (by have:=JV w b a (l.take c);rw[List.length_take] at this;omega)
   have fin:W (rec (l,b,a,AN w b a l,aV (((AN w b a (l.take c)).length:Int)+(1:Int)),aV ((c:Int)+(1:Int)),w)) (CT (fun d=>d=(AN w b a l,((AN w b a l).length:Int))) fun _=>False):=by rw[hw2,hw4,←q3];exact kk
   have hz:=hk.2 h2
   cases ok with
   |
    false=>
    rw[if_neg (by decide),Option.bind_some,if_neg (by decide)]
    exact⟨_,rfl,fin⟩
   |
    true=>
    have hz:0<(zL w a l[c]).length:=hz.elim (fun h=>(by cases h)) id
    rw[if_pos rfl,decide_eq_false (show¬((zL w a l[c]).length:Int)=(0:Int) by omega),Option.bind_some,if_neg (by decide)]
    exact⟨_,rfl,fin⟩
 case stop=>
  intro rec _ _
  dsimp only
  rw[if_neg (fun h'=>by have:=of_decide_eq_true h';exact Int.lt_irrefl _ this),List.take_length]
  exact⟨_,rfl,rfl⟩
theorem zf(w:bL)(l:ZC)(b a:Int)(hs:SA w.1.1)(hl:l.length≤aC):f5 w l b a=some true:=by
 unfold f5
 rw[EE,Option.bind_some,if_neg (by decide)]
 obtain⟨r,e,hr⟩:=He w l hs.ss hl
 rw[e,Option.bind_some]
 cases r with
 |false=>rfl
 |
  true=>
  have hw:=hr rfl
  have hp:∀p∈l,PP w b a p∧(eZ p).length≤16:=fun p hp=>⟨MI w hs hw.ft hw.facts b a p (hw.fields p hp),hw.fields p hp⟩
  rw[if_neg (by decide),ze w b a l (fun p h=>(hp p h).1) hw.IN,Option.bind_some]
  obtain⟨z,e2,hz⟩:=D2 w b a l hw.IN hp
  rw[e2]
  cases z with
  |ret r=>exact hz.elim
  |
   brk d=>
   have hd:d=(AN w b a l,((AN w b a l).length:Int)):=hz
   subst hd
   rw[aG]
   show some (decide (_=_))=some true
   rw[decide_eq_true rfl]
theorem MK{s:cK}(h:wf fe s):SA s where
 ss:=
  {issuers:=h.1.2.1
   units:=h.2.1.2.1
   schemas:=h.2.2.1.2.1
   rules:=h.2.2.2.1.2.1
   converts:=h.2.2.2.2.1.2.1
   purposes:=h.2.2.2.2.2.1.2.1
   fields:=fun x hx=>⟨(h.2.2.1.2.2 x hx).2.2.2.2.1.2.1,fun f hf=>((h.2.2.1.2.2 x hx).2.2.2.2.1.2.2 f hf).2.1.2.2.2.2.2.1.2.1⟩
   depends:=fun x hx=>⟨(h.2.2.1.2.2 x hx).2.2.2.2.2.1.2.1,fun d hd=>⟨((h.2.2.1.2.2 x hx).2.2.2.2.2.1.2.2 d hd).1.2.1,((h.2.2.1.2.2 x hx).2.2.2.2.2.1.2.2 d hd).2.2.1.2.1⟩⟩
   rl:=fun r hr=>⟨(h.2.2.2.1.2.2 r hr).2.2.1.2.1,(h.2.2.2.1.2.2 r hr).2.2.2.1.2.1,(h.2.2.2.1.2.2 r hr).2.2.2.2.1.2.1⟩
   mv:=fun c hc=>(h.2.2.2.2.1.2.2 c hc).2.2.2.2.1.2.1
   may:=fun p hp=>(h.2.2.2.2.2.1.2.2 p hp).2.1.2.1}
 bs:=
  {issuers:=h.1.1
   units:=h.2.1.1
   schemas:=h.2.2.1.1
   rules:=h.2.2.2.1.1
   converts:=h.2.2.2.2.1.1
   purposes:=h.2.2.2.2.2.1.1
   sch:=fun x hx=>⟨(h.2.2.1.2.2 x hx).2.2.2.2.1.1,(h.2.2.1.2.2 x hx).2.2.2.2.2.1.1,fun d hd=>((h.2.2.1.2.2 x hx).2.2.2.2.2.1.2.2 d hd).1.1⟩
   rl:=fun r hr=>⟨(h.2.2.2.1.2.2 r hr).2.2.1.1,(h.2.2.2.1.2.2 r hr).2.2.2.1.1,(h.2.2.2.1.2.2 r hr).2.2.2.2.1.1⟩
   cv:=fun c hc=>(h.2.2.2.2.1.2.2 c hc).2.2.2.2.1.1
   pu:=fun p hp=>(h.2.2.2.2.2.1.2.2 p hp).2.1.1}
 sw:=
  {units:=h.2.1.2.1
   schemas:=h.2.2.1.2.1
   rules:=h.2.2.2.1.2.1
   purposes:=h.2.2.2.2.2.1.2.1
   nb:=fun x hx=>⟨(h.2.2.1.2.2 x hx).2.2.2.2.1.2.1,fun f hf=>((h.2.2.1.2.2 x hx).2.2.2.2.1.2.2 f hf).2.1.2.2.2.2.2.1.2.1⟩
   rl:=fun r hr=>⟨(h.2.2.2.1.2.2 r hr).2.2.1.2.1,(h.2.2.2.1.2.2 r hr).2.2.2.1.2.1,(h.2.2.2.1.2.2 r hr).2.2.2.2.1.1⟩
   may:=fun p hp=>(h.2.2.2.2.2.1.2.2 p hp).2.1.2.1}
theorem X0(a0:bL)(a1:ZC)(a2:Int)(a3:Int)(af0:wf dF a0)(af1:wf (.slice 104 fg) a1)(_af2:wf (.int .i64) a2)(_af3:wf (.int .i64) a3):f5 a0 a1 a2 a3=some true:=
 zf a0 a1 a2 a3 (MK af0.1.1) af1.2.1
end Go.Proofs.YtgdcjlldafmomaaGreat
