/- The machines: what it means to be walked or run, part 2. No condition. -/
import Derived.Test.YtpmlkhjpbjnagaaGreatA1
import Derived.Laws.MakeOwn
import Derived.Laws.IdiomStrings
import Derived.Laws.Slices
import Derived.Laws.StructEq
import Derived.ChangeKeysEq
import Derived.RangeFuncRecord
namespace Go.Ax
variable{hb:Nat→Option aO}{bs:Nat}
theorem fW{b:Nat}{t:Ty}{xs:List t.den}(h:eH hb b=some ⟨bs,t,xs⟩):∃e,hb b=some (.row e bs t xs):=by
 grind [eH]
variable{w:World}{E:Env}{hp:List (Option aO)}
theorem Ge{gl:Ctx}(hw:HW gl E w hp)(hB:HB hb hp){b:Nat}{t:Ty}{xs:List t.den}{vs:List Value}(hv:eH hb b=some ⟨bs,t,xs⟩)(hr:RC E w (.own b) vs):RC (E.cH [b]) w (.val (.slice bs t) xs) vs:=by
 obtain⟨e,hk⟩:=fW hv
 obtain⟨h1,h2,h3,h4,a,cap,h5,h6,h7⟩:=hw.cQ b _ (hB b _ hk)
 obtain⟨hr,_⟩:=hr
 rw[h5] at hr
 rcases h7 with⟨h7,h8,h9⟩|⟨g,c,h7,h8,h9,h10,h11,h12⟩
 ·subst h9;obtain⟨rfl,rfl⟩:=h7
  exact⟨none,0,hr,by simp,h2,h3,Or.inl rfl⟩
 ·refine⟨a,cap,hr,h11,h2,h3,Or.inr ⟨g,0,_,h8,Or.inr ⟨b,by simp,h7⟩,?_,bk.mono (fun _ _ h=>Rel.mono (Env.db [b]).w (Env.db [b] (w:=w)).S h) h12⟩⟩
  have:=qf.of_heap h9 0 (xs.length*t.size)
  grind
theorem la:∀{u y:AV}{l:List Nat},oT hb u=some (y,l)→y.ids= []∧∀b∈l,∃k,hb b=some k:=by
 intro u
 induction u with
 |
  own b=>
  intro y l h
  simp only[oT] at h
  split at h
  ·rename_i hv
   cases h
   exact⟨rfl,fun b' hb'=>by rw[List.mem_singleton.1 hb'];obtain⟨e,he⟩:=fW hv;exact⟨_,he⟩⟩
  ·cases h
 |
  cons a b ih1 ih2=>
  intro y l h
  simp only[oT] at h
  split at h
  ·rename_i h1 h2
   cases h
   obtain⟨p1,p2⟩:=ih1 h1
   obtain⟨q1,q2⟩:=ih2 h2
   exact⟨by simp[AV.ids,p1,q1],fun b hb=>(List.mem_append.1 hb).elim (p2 b) (q2 b)⟩
  ·cases h
 |val t x=>intro y l h;cases h;exact⟨rfl,by simp⟩
 |cd t x=>intro y l h;cases h;exact⟨rfl,by simp⟩
 |bn=>intro y l h;cases h;exact⟨rfl,by simp⟩
 |eP=>intro y l h;cases h;exact⟨rfl,by simp⟩
 |nil=>intro y l h;cases h;exact⟨rfl,by simp⟩
 |ptr b p=>intro y l h;cases h;exact⟨rfl,by simp⟩
 |_=>intro y l h;cases h
theorem D6{gl:Ctx}(hw:HW gl E w hp)(hB:HB hb hp):∀{u y:AV}{l:List Nat}{vs:List Value},oT hb u=some (y,l)→RC E w u vs→RC (E.cH l) w y vs:=by
 intro u
 induction u with
 |
  own b=>
  intro y l vs h hr
  simp only[oT] at h
  split at h
  ·rename_i hv
   cases h
   exact Ge hw hB hv hr
  ·cases h
 |
  cons a b ih1 ih2=>
  intro y l vs h hr
  simp only[oT] at h
  split at h
  ·rename_i h1 h2
   cases h
   obtain⟨v1,v2,e,r1,r2⟩:=hr
   exact⟨v1,v2,e,RC.mono (Env.eR fun b hb=>j4 _ hb) (fun _ _=>⟨rfl,rfl,rfl⟩) (ih1 h1 r1),RC.mono (Env.eR fun b hb=>kK _ hb) (fun _ _=>⟨rfl,rfl,rfl⟩) (ih2 h2 r2)⟩
  ·cases h
 |val t x=>intro y l vs h hr;cases h;exact RC.mono (Env.db []) (fun b hb=>by cases hb) (a:=.val t x) hr
 |cd t x=>intro y l vs h hr;cases h;exact RC.mono (Env.db []) (fun b hb=>by cases hb) (a:=.cd t x) hr
 |bn=>intro y l vs h hr;cases h;exact hr
 |eP=>intro y l vs h hr;cases h;exact hr
 |nil=>intro y l vs h hr;cases h;exact hr
 |ptr b p=>intro y l vs h hr;cases h;exact⟨RC.len hr,RC.one hr⟩
 |_=>intro y l vs h;cases h
theorem oo{b:Nat}{u y:AV}{l:List Nat}(h:mh hb b u=some (y,l)):y.ids= []∧y.isAgg=false∧∃l',l=b::l'∧∀c∈l',∃k,hb c=some k:=by
 have key:∀{u:AV},Dj hb b u=some (y,l)→y.ids= []∧y.isAgg=false∧∃l',l=b::l'∧∀c∈l',∃k,hb c=some k:=by
  intro u h
  unfold Dj at h
  split at h
  ·rename_i hd
   cases h
   obtain⟨p1,p2⟩:=la hd
   exact⟨HN p1,Dc,_,rfl,p2⟩
  ·cases h
 cases u with
 |
  ptr c q=>
  simp only[mh] at h
  split at h
  ·rename_i k hk
   split at h
   ·split at h
    ·rename_i hd
     cases h
     obtain⟨p1,p2⟩:=la hd
     refine⟨by simp[AV.ids],rfl,_,rfl,fun c' hc'=>?_⟩
     rcases List.mem_cons.1 hc' with rfl|hc'
     ·exact⟨k,hk⟩
     ·exact p2 c' hc'
    ·cases h
   ·cases h
  ·cases h
 |_=>simp only[mh] at h;exact key h
variable{cs:List Value}
theorem M7{gl:Ctx}(hw:HW gl E w hp)(hB:HB hb hp){b:Nat}{u y:AV}{l:List Nat}(h:mh hb b u=some (y,l)){g o:Nat}(hg:E.g b=some g)(hr:qf w ⟨g,o,none⟩ cs)(hu:RC E w u cs):RC (E.cH l) w y [.pointer (some ⟨g,o,none⟩)]:=by
 have key:∀{u:AV},RC E w u cs→Dj hb b u=some (y,l)→RC (E.cH l) w y [.pointer (some ⟨g,o,none⟩)]:=by
  intro u hu h
  unfold Dj at h
  split at h
  ·rename_i hd
   cases h
   exact E8 (Or.inr ⟨b,cm ..,hg⟩) hr (la hd).1 (RC.mono (Env.eR fun c hc=>dj _ hc) (fun _ _=>⟨rfl,rfl,rfl⟩) (D6 hw hB hd hu))
  ·cases h
 cases u with
 |
  ptr c q=>
  simp only[mh] at h
  split at h
  ·rename_i k hk
   split at h
   ·rename_i u2 hu2
    split at h
    ·rename_i hd
     cases h
     obtain⟨g2,r1,r2,r3⟩:=hu
     obtain⟨g',s',cs',q1,q2,q3,q4,q5⟩:=qz (hw.cQ c _ (hB c _ hk)) r3 hu2
     rw[r1] at q1;cases q1
     refine⟨g,o,cs,rfl,Or.inr ⟨b,cm ..,hg⟩,hr,HN (la hd).1,?_⟩
     rw[r2]
     exact E8 (Or.inr ⟨c,dj _ (cm ..),r1⟩) q4 (la hd).1 (RC.mono (Env.eR fun c hc=>dj _ (dj _ hc)) (fun _ _=>⟨rfl,rfl,rfl⟩) (D6 hw hB hd q5))
    ·cases h
   ·cases h
  ·cases h
 |_=>simp only[mh] at h;exact key hu h
theorem oq{gl:Ctx}(hw:HW gl E w hp)(hB:HB hb hp):∀{x:AV}{m:Bool}{t:Ty}{y:AV}{l:List Nat}{vs:List Value},view hb x m t=some (y,l)→RC E w x vs→RC (E.cH l) w y vs:=by
 intro x
 induction x with
 |val t x=>intro m u y l vs h hr;simp only[view,cX,iv] at h;obtain⟨rfl,rfl⟩:=h;exact RC.mono (Env.db []) (fun b hb=>by cases hb) (a:=.val t x) hr
 |
  bn=>
  intro m u y l vs h hr
  cases u with
  |
   slice bs t=>
   cases m<;>(simp only[view,cX,iv] at h;obtain⟨rfl,rfl⟩:=h;exact⟨none,0,by trivial,dP _,by simp,by simp,Or.inl rfl⟩)
  |_=>trivial
 |
  own b=>
  intro m u y l vs h hr
  have h':(match eH hb b with|some ⟨bs,t,xs⟩=>some (AV.val (.slice bs t) xs,[b])|none=>none)=some (y,l):=by trivial
  split at h'
  ·rename_i bs t xs hv
   cases h'
   obtain⟨e,hk⟩:=fW hv
   obtain⟨h1,h2,h3,h4,a,cap,h5,h6,h7⟩:=hw.cQ b _ (hB b _ hk)
   obtain⟨hr,_⟩:=hr
   rw[h5] at hr
   rcases h7 with⟨h7,h8,h9⟩|⟨g,c,h7,h8,h9,h10,h11,h12⟩
   ·subst h9;obtain⟨rfl,rfl⟩:=h7
    exact⟨none,0,hr,by simp,h2,h3,Or.inl rfl⟩
   ·refine⟨a,cap,hr,h11,h2,h3,Or.inr ⟨g,0,_,h8,Or.inr ⟨b,by simp,h7⟩,?_,bk.mono (fun _ _ h=>Rel.mono (Env.db [b]).w (Env.db [b] (w:=w)).S h) h12⟩⟩
    have:=qf.of_heap h9 0 (xs.length*t.size)
    grind
  grind
 |
  ku b lo len=>
  intro m u y l vs h hr
  have h':(match eH hb b with|some ⟨bs,t,xs⟩=>some (AV.val (.slice bs t) ((xs.drop lo).take len),[b])|none=>none)=some (y,l):=by trivial
  split at h'
  ·rename_i bs t xs hv
   cases h'
   obtain⟨e,hk⟩:=fW hv
   obtain⟨h1,h2,h3,h4,a,cap,h5,h6,h7⟩:=hw.cQ b _ (hB b _ hk)
   obtain⟨a',c',n,tt,r1,r2,r3,r4,a2,r5,r6⟩:=hr
   rw[h1] at r1;cases r1
   rw[h5] at r2;cases r2
   have hlen:((xs.drop lo).take len).length=len:=by grind
   have hb1:len*bs≤aH:=dh (ji _ (by omega)) h2
   refine⟨_,_,by rw[hlen];exact r5,by grind,by grind,by grind,?_⟩
   rcases Nat.eq_zero_or_pos len with hz|hz
   ·grind
   ·rcases h7 with⟨h7,h8,h9⟩|⟨g,c,h7,h8,h9,h10,h11,h12⟩
    ·grind
    ·subst h8
     have hr0:=qf.of_heap h9 0 (xs.length*t.size)
     simp only[iV] at hr0
     obtain⟨cs',q1,q2⟩:=bk.part hr0 h12 lo len
     refine Or.inr ⟨g,0+lo*t.size,cs',?_,Or.inr ⟨b,by simp,h7⟩,q1,bk.mono (fun _ _ h=>Rel.mono (Env.db [b]).w (Env.db [b] (w:=w)).S h) q2⟩
     grind [Addr.add]
  grind
 |
  ptr b p=>
  intro m u y l vs h hr
  have h':(match hb b with
   |
    some k=>match mT k p,(kP k).sub p with
    |
     some u,some s=>match u.bB s with
     |some y=>some (AV.cd s y,[b])
     |none=>mh hb b u
    |_,_=>none
   |none=>none)=some (y,l):=by trivial
  split at h'
  ·rename_i k hk
   split at h'
   ·rename_i u' s hu hs
    split at h'
    ·rename_i z hz
     cases h'
     obtain⟨g,r1,r2,r3⟩:=hr
     obtain⟨g',s',cs,q1,q2,q3,q4,q5⟩:=qz (hw.cQ b _ (hB b _ hk)) r3 hu
     rw[r1] at q1;cases q1
     exact⟨g,_,cs,r2,Or.inr ⟨b,by simp,r1⟩,q4,Rel.mono (Env.db [b]).w (Env.db [b] (w:=w)).S (RC.bB hz q5)⟩
    ·obtain⟨g,r1,r2,r3⟩:=hr
     obtain⟨g',s',cs,q1,q2,q3,q4,q5⟩:=qz (hw.cQ b _ (hB b _ hk)) r3 hu
     rw[r1] at q1;cases q1
     rw[r2]
     exact M7 hw hB h' r1 q4 q5
   grind
  grind
 |
  cd t x=>
  intro m u y l vs h hr
  have h':some (AV.cd t x,([]:List Nat))=some (y,l):=by trivial
  cases h'
  exact RC.mono (Env.db []) (fun b hb=>by cases hb) hr
 |
  iy v=>
  intro m u y l vs h hr
  have h':some (AV.iy v,([]:List Nat))=some (y,l):=by trivial
  cases h'
  exact RC.mono (Env.db []) (fun b hb=>by cases hb) (a:=.iy v) hr
 |
  mp b=>
  intro m u y l vs h hr
  have h':(match hb b with
   |some (.map k v es)=>some (AV.val (.map k v) (some es),[b])
   |_=>none)=some (y,l):=by trivial
  split at h'
  ·rename_i k v es hk
   cases h'
   obtain⟨g,r1,r2⟩:=hr
   obtain⟨n1,n2,g',en,clock,q1,q2,q3,q4,q5⟩:=hw.cQ b _ (hB b _ hk)
   rw[r1] at q1;cases q1
   exact⟨some g,r2,Or.inr ⟨es,g,en,clock,rfl,rfl,Or.inr ⟨b,by simp,r1⟩,q2,jY.mono (fun _ _=>ir.mono (fun _ _=>Rel.mono (Env.db [b]).w (Env.db [b] (w:=w)).S)) (fun _ _=>ir.mono (fun _ _=>Rel.mono (Env.db [b]).w (Env.db [b] (w:=w)).S)) (RM.to q3),n1,n2,q4,q5⟩⟩
  grind
 |
  fy f t x=>
  intro m u y l vs h hr
  have h':some (AV.fy f t x,([]:List Nat))=some (y,l):=by trivial
  cases h'
  exact RC.mono (Env.db []) (fun b hb=>by cases hb) hr
 |
  func fn fs cs ih1 ih2=>
  intro m u y l vs h hr
  have h':(match view hb fs true .unit,view hb cs true .unit with
   |some (f,l),some (c,m)=>if f.atoms&&c.atoms then some (AV.func fn f c,l++m) else none
   |_,_=>none)=some (y,l):=by trivial
  split at h'
  ·rename_i f l1 c l2 hf hc
   split at h'
   ·rename_i ha
    cases h'
    simp only[bj] at ha
    obtain⟨f',c',e,r1,r2,r3,r4⟩:=hr
    have q1:=RC.mono (Env.eR (by grind):bE (E.cH l1) w (E.cH (l1++l2)) w) (fun _ _=>⟨rfl,rfl,rfl⟩) (ih1 hf r1)
    have q2:=RC.mono (Env.eR (by grind):bE (E.cH l2) w (E.cH (l1++l2)) w) (fun _ _=>⟨rfl,rfl,rfl⟩) (ih2 hc r2)
    exact⟨f',c',e,q1,q2,ha.1,ha.2⟩
   grind
  grind
 |
  cons a b ih1 ih2=>
  intro m u y l vs h hr
  obtain⟨v1,v2,e,r1,r2⟩:=hr
  cases m with
  |
   true=>
   have h':(match view hb a false .unit,view hb b true .unit with
    |some (x,l),some (y,m)=>some (AV.cons x y,l++m)
    |_,_=>none)=some (y,l):=by trivial
   split at h'
   ·rename_i x l1 z l2 h1 h2
    cases h'
    have q1:=RC.mono (Env.eR (by grind):bE (E.cH l1) w (E.cH (l1++l2)) w) (fun _ _=>⟨rfl,rfl,rfl⟩) (ih1 h1 r1)
    have q2:=RC.mono (Env.eR (by grind):bE (E.cH l2) w (E.cH (l1++l2)) w) (fun _ _=>⟨rfl,rfl,rfl⟩) (ih2 h2 r2)
    exact⟨v1,v2,e,q1,q2⟩
   grind
  |
   false=>
   cases u with
   |
    pair s t=>
    simp only[view] at h
    split at h
    ·rename_i s' x l1 t' z l2 h1 h2
     cases h
     have q1:=RC.mono (Env.eR (by grind):bE (E.cH l1) w (E.cH (l1++l2)) w) (fun _ _=>⟨rfl,rfl,rfl⟩) (ih1 h1 r1)
     have q2:=RC.mono (Env.eR (by grind):bE (E.cH l2) w (E.cH (l1++l2)) w) (fun _ _=>⟨rfl,rfl,rfl⟩) (ih2 h2 r2)
     exact⟨v1,v2,e,q1,q2⟩
    grind
   |_=>trivial
 |
  nil=>
  intro m u y l vs h hr
  cases m with
  |true=>
   have h':some (AV.nil,([]:List Nat))=some (y,l):=by trivial
   cases h';exact hr
  |false=>
   have h':some (AV.val .unit (),([]:List Nat))=some (y,l):=by trivial
   cases h';exact hr
 |eP=>
  intro m u y l vs h hr;have h':some (AV.eP,([]:List Nat))=some (y,l):=by trivial
  cases h';exact hr
 |fv=>
  intro m u y l vs h hr;have h':some (AV.fv,([]:List Nat))=some (y,l):=by trivial
  cases h';exact hr
 |_=>grind [view]
theorem jR{x y:AV}{t:Ty}{l:List Nat}(h:view hb x false t=some (y,l)):y.isAgg=x.isAgg:=by
 cases x with
 |val t x=>grind [view]
 |bn=>cases t<;>simp[view] at h;rw[←h.1];rfl
 |
  own b=>
  have h':(match eH hb b with|some ⟨bs,t,xs⟩=>some (AV.val (.slice bs t) xs,[b])|none=>none)=some (y,l):=by trivial
  split at h'<;>cases h';rfl
 |
  ku b lo len=>
  have h':(match eH hb b with|some ⟨bs,t,xs⟩=>some (AV.val (.slice bs t) ((xs.drop lo).take len),[b])|none=>none)=some (y,l):=by trivial
  split at h'<;>cases h';rfl
 |
  ptr b p=>
  have h':(match hb b with
   |
    some k=>match mT k p,(kP k).sub p with
    |
     some u,some s=>match u.bB s with
     |some y=>some (AV.cd s y,[b])
     |none=>mh hb b u
    |_,_=>none
   |none=>none)=some (y,l):=by trivial
  split at h'
  ·split at h'
   ·split at h'
    ·cases h';rfl
    ·exact(oo h').2.1
   grind
  grind
 |iy v=>
  have h':some (AV.iy v,([]:List Nat))=some (y,l):=by trivial
  grind
 |cd t' x=>
  have h':some (AV.cd t' x,([]:List Nat))=some (y,l):=by trivial
  grind
 |
  func fn fs cs=>
  have h':(match view hb fs true .unit,view hb cs true .unit with
   |some (f,l),some (c,m)=>if f.atoms&&c.atoms then some (AV.func fn f c,l++m) else none
   |_,_=>none)=some (y,l):=by trivial
  split at h'
  ·split at h'
   ·cases h';rfl
   grind
  grind
 |
  cons a b=>
  cases t with
  |
   pair s t=>
   simp only[view] at h
   split at h
   ·cases h;rfl
   grind
  |_=>trivial
 |nil=>
  have h':some (AV.val .unit (),([]:List Nat))=some (y,l):=by trivial
  cases h';rfl
 |eP=>
  have h':some (AV.eP,([]:List Nat))=some (y,l):=by trivial
  grind
 |fv=>
  have h':some (AV.fv,([]:List Nat))=some (y,l):=by trivial
  grind
 |
  mp b=>
  have h':(match hb b with
   |some (.map k v es)=>some (AV.val (.map k v) (some es),[b])
   |_=>none)=some (y,l):=by trivial
  split at h'
  ·cases h';rfl
  grind
 |fy f u x=>
  have h':some (AV.fy f u x,([]:List Nat))=some (y,l):=by trivial
  grind
 |_=>trivial
theorem D7{gl:Ctx}(hw:HW gl E w hp)(hB:HB hb hp){x y:AV}{t:Ty}{l:List Nat}{v:Value}(h:view hb x false t=some (y,l))(hr:bZ E w x v):bZ (E.cH l) w y v:=by
 have ha:=jR h
 rcases hr with⟨h1,cs,e,h2⟩|⟨h1,h2⟩
 ·exact Or.inl ⟨by grind,cs,e,oq hw hB h h2⟩
 ·exact Or.inr ⟨by grind,oq hw hB h h2⟩
theorem sU:∀{x:AV}{m:Bool}{t:Ty}{y:AV}{l:List Nat},view hb x m t=some (y,l)→∀b∈l,∃k,hb b=some k:=by
 intro x
 induction x with
 |
  own b=>
  intro m t y l h
  have h':(match eH hb b with|some ⟨bs,t,xs⟩=>some (AV.val (.slice bs t) xs,[b])|none=>none)=some (y,l):=by trivial
  grind [fW]
 |
  ku b lo len=>
  intro m t y l h
  have h':(match eH hb b with|some ⟨bs,t,xs⟩=>some (AV.val (.slice bs t) ((xs.drop lo).take len),[b])|none=>none)=some (y,l):=by trivial
  grind [fW]
 |
  ptr b p=>
  intro m t y l h
  have h':(match hb b with
   |
    some k=>match mT k p,(kP k).sub p with
    |
     some u,some s=>match u.bB s with
     |some y=>some (AV.cd s y,[b])
     |none=>mh hb b u
    |_,_=>none
   |none=>none)=some (y,l):=by trivial
  split at h'
  ·rename_i k hk
   split at h'
   ·split at h'
    ·cases h';intro b' hb';rw[List.mem_singleton.1 hb'];exact⟨k,hk⟩
    ·obtain⟨_,_,l',rfl,hl⟩:=oo h'
     intro c hc
     rcases List.mem_cons.1 hc with rfl|hc
     ·exact⟨k,hk⟩
     ·exact hl c hc
   ·cases h'
  ·cases h'
 |
  func fn fs cs ih1 ih2=>
  grind [view]
 |
  cons a b ih1 ih2=>
  intro m t y l h
  cases m with
  |
   true=>
   grind [view]
  |
   false=>
   cases t with
   |
    pair s t=>
    grind [view]
   |_=>trivial
 |
  mp b=>
  intro m t y l h
  have h':(match hb b with
   |some (.map k v es)=>some (AV.val (.map k v) (some es),[b])
   |_=>none)=some (y,l):=by trivial
  grind
 |
  _=>
  intro m t y l h
  cases m<;>cases t<;>simp[view] at h<;>(try (intro b hb;rw[h.2] at hb;cases hb))
def AV.jS:AV→Bool
 | .val t _=>t.flat
 | .cons a b=>a.jS&&b.jS
 | .nil=>true
 | .fU l=>l.jS
 | .iface _ v=>v.jS
 | .eP| .dX| .fv| .hJ| .bn=>true
 |_=>false
variable{E':Env}{w':World}
theorem RC.flat:∀{a:AV}{vs:List Value},a.jS=true→RC E w a vs→RC E' w' a vs:=by
 intro a
 induction a with
 |val t x=>intro vs hf h;exact Rel.flat hf h
 |
  cons a b ih1 ih2=>
  intro vs hf h
  simp only[AV.jS,bj] at hf
  obtain⟨v1,v2,e,h1,h2⟩:=h
  exact⟨v1,v2,e,ih1 hf.1 h1,ih2 hf.2 h2⟩
 |nil=>intro vs _ h;exact h
 |eP=>intro vs _ h;exact h
 |dX=>intro vs _ h;exact h
 |fv=>intro vs _ h;exact h
 |hJ=>intro vs _ h;exact h
 |bn=>intro vs _ h;exact h
 |fU l ih=>intro vs _ h;trivial
 |
  iface u v ih=>
  intro vs hf h
  obtain⟨x,e,h⟩:=h
  refine⟨x,e,?_⟩
  rcases h with⟨h1,cs,h2,h3⟩|⟨h1,h2⟩
  ·exact Or.inl ⟨h1,cs,h2,ih hf h3⟩
  ·exact Or.inr ⟨h1,ih hf h2⟩
 |_=>intro vs hf;trivial
theorem bZ.flat{a:AV}{v:Value}(hf:a.jS=true)(h:bZ E w a v):bZ E' w' a v:=by
 rcases h with⟨h1,cs,e,h2⟩|⟨h1,h2⟩
 ·exact Or.inl ⟨h1,cs,e,RC.flat hf h2⟩
 ·exact Or.inr ⟨h1,RC.flat hf h2⟩
def AV.eE:AV→Bool
 | .val t _=>t.flat
 | .cons a b=>a.eE&&b.eE
 | .nil=>true
 | .fU l=>l.eE
 | .iface _ v=>v.eE
 | .eP| .dX| .fv| .hJ| .bn| .own _| .ku .. | .ptr .. | .mp _=>true
 |_=>false
variable{S:Nat→Prop}
theorem RC.eE:∀{a:AV}{vs:List Value},a.eE=true→RC E w a vs→RC {E with S:=S} w a vs:=by
 intro a
 induction a with
 |val t x=>intro vs hf h;exact Rel.flat hf h
 |
  cons a b ih1 ih2=>
  intro vs hf h
  simp only[AV.eE,bj] at hf
  obtain⟨v1,v2,e,h1,h2⟩:=h
  exact⟨v1,v2,e,ih1 hf.1 h1,ih2 hf.2 h2⟩
 |nil=>intro vs _ h;exact h
 |eP=>intro vs _ h;exact h
 |dX=>intro vs _ h;exact h
 |fv=>intro vs _ h;exact h
 |hJ=>intro vs _ h;exact h
 |bn=>intro vs _ h;exact h
 |own b=>intro vs _ h;exact h
 |ku b lo len=>intro vs _ h;exact h
 |ptr b p=>intro vs _ h;exact h
 |mp b=>intro vs _ h;exact h
 |fU l ih=>intro vs _ h;trivial
 |
  iface u v ih=>
  intro vs hf h
  obtain⟨x,e,h⟩:=h
  refine⟨x,e,?_⟩
  rcases h with⟨h1,cs,h2,h3⟩|⟨h1,h2⟩
  ·exact Or.inl ⟨h1,cs,h2,ih hf h3⟩
  ·exact Or.inr ⟨h1,ih hf h2⟩
 |_=>intro vs hf;trivial
theorem bZ.eE{a:AV}{v:Value}(hf:a.eE=true)(h:bZ E w a v):bZ {E with S:=S} w a v:=by
 rcases h with⟨h1,cs,e,h2⟩|⟨h1,h2⟩
 ·exact Or.inl ⟨h1,cs,e,RC.eE hf h2⟩
 ·exact Or.inr ⟨h1,RC.eE hf h2⟩
theorem RT.eE:∀{a:AV}{vs:List Value},a.eE=true→RT E w a vs→RT {E with S:=S} w a vs:=by
 intro a
 induction a with
 |
  cons a b ih1 ih2=>
  intro vs hf h
  simp only[AV.eE,bj] at hf
  cases vs with
  |nil=>trivial
  |cons v vs=>exact⟨bZ.eE hf.1 h.1,ih2 hf.2 h.2⟩
 |nil=>intro vs _ h;exact h
 |_=>intro vs _ h;trivial
theorem RV.eE{a:AV}{v:Value}(hf:a.eE=true)(h:RV E w a v):RV {E with S:=S} w a v:=by
 cases a with
 |bot=>trivial
 |fU l=>obtain⟨vs,e,h⟩:=h;exact⟨vs,e,RT.eE hf h⟩
 |opt c a=>trivial
 |_=>exact bZ.eE hf h
def uf(G:bN)(ev:Operand→AV)(x:Operand×TypeId):AV×Ty:=(ev x.1,match x.1,G.at x.2 with| .const _,_=>.unit|_,some td=>td.ty|_,none=>.unit)
theorem lz.append:∀{xs ys:List AV}{vs us:List Value},lz E w xs vs→lz E w ys us→lz E w (xs++ys) (vs++us)
 |[],_,[],_,_,h=>h
 |[],_,_::_,_,h,_=>h.elim
 |_::_,_,[],_,h,_=>h.elim
 |_::_,_,_::_,_,h,k=>⟨h.1,lz.append h.2 k⟩
theorem lz.atoms:∀{l:AV}{vs:List Value},l.atoms=true→RC E w l vs→lz E w l.toList vs:=by
 intro l
 induction l with
 |
  cons a b ih1 ih2=>
  intro vs ha h
  simp only[AV.atoms,bj] at ha
  obtain⟨v1,v2,e,h1,h2⟩:=h
  subst e
  have hl:=RC.len h1
  have hs:a.size=1:=by
   cases a with
   |val t x=>cases t<;>simp[AV.atom,Ty.isAgg] at ha<;>rfl
   |_=>first|rfl|simp[AV.atom] at ha
  rw[hs] at hl
  obtain⟨v,rfl⟩:∃v,v1= [v]:=by
   match v1,hl with
   |[v],_=>grind
  refine⟨RV.eS (Or.inr ⟨?_,h1⟩),ih2 ha.2 h2⟩
  cases a with
  |val t x=>cases t<;>simp[AV.atom,Ty.isAgg] at ha<;>rfl
  |_=>first|rfl|simp[AV.atom] at ha
 |nil=>intro vs _ h;simp only[RC] at h;subst h;trivial
 |_=>intro vs ha;trivial
variable{ev:Operand→AV}
theorem lz.map{ρ:Operand→Value}:∀(l:List Operand),(∀x∈l,RV E w (ev x) (ρ x))→lz E w (l.map ev) (l.map ρ)
 |[],_=>trivial
 |x::l,h=>⟨h x (cm ..),lz.map l (fun y hy=>h y (dj _ hy))⟩
theorem zM(off:Nat):∀(cs:List Value)(k:Nat)(c:Array Value),off+k+cs.length≤c.size→
 ((cs.zipIdx k).foldl (fun(cs:Array Value)(x:Value×Nat)=>cs.setIfInBounds (off+x.2) x.1) c).toList=c.toList.take (off+k)++cs++c.toList.drop (off+k+cs.length)
 |[],k,c,_=>by simp
 |
  x::cs,k,c,h=>by
  simp only[gP] at h
  rw[List.zipIdx_cons,List.foldl_cons,zM off cs (k+1) _ (by simp;omega)]
  simp only[Array.toList_setIfInBounds,gP]
  have hl:off+k<c.toList.length:=by simp;omega
  rw[show off+(k+1)=off+k+1 from by omega,List.take_set,List.drop_set_of_lt (by omega)]
  rw[show off+k+1+cs.length=off+k+(cs.length+1) from by omega]
  rw[List.take_succ_eq_append_getElem hl]
  rw[List.set_append_right _ _ (by simp;omega)]
  simp only[kI]
  rw[qx (by omega)]
  simp
theorem ot(place:Nat→Option (Nat×Nat))(cells:Array Value)(i off size:Nat)(v:Value)(rest:List (Nat×Value))(hp:place i=some (off,size))(hs:v.cells.size=size)(hb:off+size≤cells.size):
 ∃amE:Array Value,Instr.fill place cells ((i,v)::rest)=Instr.fill place amE rest∧amE.toList=cells.toList.take off++v.cells.toList++cells.toList.drop (off+size):=by
 refine⟨(v.cells.toList.zipIdx 0).foldl (fun(cs:Array Value)(x:Value×Nat)=>cs.setIfInBounds (off+x.2) x.1) cells,?_,?_⟩
 rotate_left
 ·simp_all[zM]
 ·simp only[Instr.fill,hp]
  rw[aC (by grind)]
  congr 1
  rw[←Array.foldl_toList]
  grind
def RP(E:Env)(w:World):List (Nat×AV)→List (Nat×Value)→Prop
 |[],[]=>True
 |x::xs,v::vs=>x.1=v.1∧RV E w x.2 v.2∧RP E w xs vs
 |_,_=>False
def Iy(t:Ty):AV→List (Nat×AV)→Option AV
 |a,[]=>some a
 |
  a,(i,v)::l=>match t.sub [.cD i] with
  |
   some s=>if v.plain&&Nat.beq v.size s.size then(match a.set [.cD i] v with
   |some a'=>if a'.cp t then Iy t a' l else none
   |none=>none) else none
  |none=>none
def D8(t:Ty):List t.den→List (Nat×AV)→Option (List t.den)
 |xs,[]=>some xs
 |
  xs,(i,v)::l=>if v.plain then(match v.bB t with
  |some y=>if Nat.blt i xs.length then D8 t (xs.set i y) l else none
  |none=>none) else none
def AV.Gf:AV→Bool
 | .bn=>true
 | .cons a b=>a.Gf||b.Gf
 |_=>false
def AV.norm(a:AV)(t:Ty):AV:=if a.Gf then a else match a.bB t with
 |some y=>.val t y
 |none=>a
def Bb(G:bN)(t:TypeId)(ps:List (Nat×AV)):Option AV:=
 match G.at t with
 |
  some td=>match td.ty with
  | .arr n u=>if u.pure then(D8 u (List.replicate n u.aD) ps).map fun xs=>.val (.arr n u) xs else none
  | .pair a b=>(Iy (.pair a b) (Ty.zero (.pair a b)) ps).map (AV.norm · (.pair a b))
  |
   .unit=>match ps with
   |[]=>some (.val .unit ())
   |_=>none
  |_=>none
 |none=>none
theorem D9{t:Ty}{place:Nat→Option (Nat×Nat)}(hpl:∀i s,t.sub [.cD i]=some s→place i=some (t.off [.cD i],s.size)∧t.valid [.cD i]):
 ∀{ps:List (Nat×AV)}{vs:List (Nat×Value)}{a r:AV}{cells:Array Value},RP E w ps vs→RC E w a cells.toList→a.cp t=true→Iy t a ps=some r→
  ∃amE,Instr.fill place cells vs=some amE∧RC E w r amE.toList∧r.cp t=true
 |
  [],[],a,r,cells,_,hr,hc,h=>by
  cases h;exact⟨cells,rfl,hr,hc⟩
 |[],_::_,_,_,_,h,_,_,_=>h.elim
 |_::_,[],_,_,_,h,_,_,_=>h.elim
 |
  (i,x)::ps,(j,v)::vs,a,r,cells,⟨e,hx,hps⟩,hr,hc,h=>by
  simp only at e;subst e
  simp only[Iy] at h
  split at h
  ·rename_i s hs
   split at h
   ·rename_i hcond
    simp only[bj] at hcond
    split at h
    ·rename_i a' ha'
     split at h
     ·rename_i hc'
      obtain⟨p1,p2⟩:=hpl i s hs
      have hxc:=(RV.jq hcond.1 hx).cells
      have hlen:=RC.len hxc
      have hsz:=bM hcond.2
      obtain⟨s',e1,e2,e3,e4⟩:=AV.mO hxc hr hc p2 (fun s' hs'=>by grind) ha'
      rw[hs] at e1;cases e1
      obtain⟨amE,f1,f2⟩:=ot place cells i _ s.size v vs p1 (by grind) (by grind)
      rw[f1]
      rw[←f2] at e4
      exact D9 hpl hps e4 hc' h
     grind
    grind
   grind
  grind
theorem xm{t:Ty}:
 ∀{ps:List (Nat×AV)}{vs:List (Nat×Value)}{xs ys:List t.den}{cells:Array Value},RP E w ps vs→bk (Rel w E.S t) cells.toList xs→D8 t xs ps=some ys→
  ∃amE,Instr.fill (fun i=>some (i*t.size,t.size)) cells vs=some amE∧bk (Rel w E.S t) amE.toList ys∧ys.length=xs.length
 |
  [],[],xs,ys,cells,_,hr,h=>by
  cases h;exact⟨cells,rfl,hr,rfl⟩
 |[],_::_,_,_,_,h,_,_=>h.elim
 |_::_,[],_,_,_,h,_,_=>h.elim
 |
  (i,x)::ps,(j,v)::vs,xs,ys,cells,⟨e,hx,hps⟩,hr,h=>by
  simp only at e;subst e
  simp only[D8] at h
  split at h
  ·rename_i hpl
   split at h
   ·rename_i y hy
    split at h
    ·rename_i hi
     have hi:i<xs.length:=by simp_all
     have hxc:=(RV.jq hpl hx).cells
     have hrel:=RC.bB hy hxc
     have aS:=bk.set (r:=Rel w E.S t) (n:=t.size) (fun _ _ h=>Rel.len h) hrel i hr hi
     have hlen:=Rel.len hrel
     have hcl:=bk.len (n:=t.size) (fun _ _ h=>Rel.len h) hr
     have hb:(i+1)*t.size≤xs.length*t.size:=ji _ hi
     rw[gX,Nat.one_mul] at hb
     obtain⟨amE,f1,f2⟩:=ot (fun i=>some (i*t.size,t.size)) cells i (i*t.size) t.size v vs rfl (by grind) (by grind)
     rw[f1]
     rw[←f2] at aS
     obtain⟨c2,g1,g2,g3⟩:=xm hps aS h
     exact⟨c2,g1,g2,by rw[g3,jj]⟩
    grind
   grind
  grind
theorem AV.JX{a:AV}{t:Ty}(h:a.cp t=true):(a.norm t).cp t=true:=by
 unfold AV.norm;split
 ·exact h
 split
 ·exact Ty.cV _
 grind
theorem RC.norm{a:AV}{t:Ty}(h:RC E w a cs):RC E w (a.norm t) cs:=by
 unfold AV.norm;split
 ·exact h
 split
 ·rename_i y hy;exact RC.bB hy h
 grind
variable{P:Program}{td:TD}
theorem bA.structOf{G:bN}(T:bA P G){t:TypeId}(h:G.at t=some td){a b:Ty}(hs:td.ty= .pair a b):∃fs,P.underlying t=some (.struct fs)∧cc G fs.toList 0 td.ty=true:=by
 obtain⟨ii,d,_,h1,_,h2,_⟩:=T.info h
 have amH:=dm h2
 cases hd:d with
 |struct fs=>subst hd;exact⟨fs,h1,h2⟩
 |
  array n e=>
  simp_all[ck]
 |
  _=>
  subst hd
  simp only[dr] at amH
  rw[hs] at amH;cases amH
theorem rq{G:bN}:∀{fs:List Field}{o:Nat}{t:Ty},cc G fs o t=true→∀f∈fs,∃td,G.at f.type=some td
 |[],_,_,_,f,hf=>by cases hf
 |
  g::fs,o,t,h,f,hf=>by
  cases t with
  |
   pair a b=>
   simp only[cc,bj] at h
   obtain⟨⟨⟨h1,_⟩,_⟩,h4⟩:=h
   cases hf with
   |
    head=>
    split at h1
    ·rename_i td htd;exact⟨td,htd⟩
    ·cases h1
   |tail _ hf=>exact rq h4 f hf
  |_=>trivial
variable{α:Type}{β:Type}
theorem oZ(g:α→Sem β)(f:α→β):∀(l:List α),(∀x∈l,(g x).run P w= .ok (f x) w)→(l.mapM g).run P w= .ok (l.map f) w
 |[],_=>by simp
 |
  x::l,h=>by
  simp only[List.mapM_cons,Sem.run_bind,h x (cm ..),Result.andThen_ok,oZ g f l (fun y hy=>h y (dj _ hy)),Sem.run_pure,dA]
theorem M8(g:α→Sem β)(f:α→β)(l:Array α)(h:∀x∈l.toList,(g x).run P w= .ok (f x) w):(l.mapM g).run P w= .ok (l.map f) w:=by
 rw[Array.mapM_eq_mapM_toList,Sem.run_map,oZ g f l.toList h]
 simp only[Result.andThen_ok]
 congr 1
 grind
variable{ps:List (Nat×AV)}
theorem run_build{G:bN}(T:bA P G){t:TypeId}{vs:Array (Nat×Value)}(hp:RP E w ps vs.toList){r:AV}(h:Bb G t ps=some r):
 ∃v,(Instr.build t vs).run P w= .ok v w∧RV E w r v:=by
 unfold Bb at h
 split at h
 ·rename_i td ht
  obtain⟨z,hz,hz1,hz2⟩:=T.zero ht w
  split at h
  ·rename_i n u hty
   split at h
   ·rename_i hpure
    obtain⟨xs,hxs,rfl⟩:=Option.map_eq_some_iff.1 h
    obtain⟨te,h1,h2,h3⟩:=T.wv ht hty
    have hsz:=T.size h2 w
    rw[h3] at hsz
    rw[hty] at hz1
    have hrel:=(fN (E:=E) (w:=w) hz1).2 hpure
    obtain⟨amE,f1,f2,f3⟩:=xm hp hrel.2 (xs:=List.replicate n u.aD) hxs
    refine⟨.agg amE,?_,RV.eS (Or.inl ⟨rfl,amE,rfl,⟨by grind,f2⟩⟩)⟩
    simp_all[Instr.build,underlying]
   grind
  ·rename_i a b hty
   obtain⟨r',hr',rfl⟩:=Option.map_eq_some_iff.1 h
   obtain⟨fs,h1,h2⟩:=T.structOf ht hty
   rw[hty] at hz1 h2
   have hrc:=(fN (E:=E) (w:=w) hz1).1
   have hpl:∀i s,(Ty.pair a b).sub [.cD i]=some s→((fs.map fun f=>(f.offset,((G.at f.type).map (·.ty.size)).getD 0))[i]?)=some ((Ty.pair a b).off [.cD i],s.size)∧(Ty.pair a b).valid [.cD i]:=by
    intro i s hs
    obtain⟨f,tf,e1,e2,e3,e4,e5,e6⟩:=lr h2 hs
    grind
   have hm:(fs.mapM fun f=>do pure (f.offset,←sizeOf f.type):Sem _).run P w= .ok (fs.map fun f=>(f.offset,((G.at f.type).map (·.ty.size)).getD 0)) w:=by
    refine M8 _ _ fs ?_
    intro f hf
    obtain⟨tf,htf⟩:=rq h2 f hf
    simp[T.size htf,htf]
   obtain⟨amE,f1,f2,f3⟩:=D9 hpl hp hrc (Ty.su _) hr'
   refine⟨.agg amE,?_,RV.eS (Or.inl ⟨?_,amE,rfl,RC.norm f2⟩)⟩
   ·simp only[Instr.build,Sem.run_bind,hz,Result.andThen_ok,underlying,run_program,h1,Sem.run_pure,hm]
    rw[f1]
    simp
   ·rw[AV.pw (AV.JX f3)];rfl
  ·rename_i hty
   split at h
   ·cases h
    have hvs:vs= #[]:=by
     apply mb
     cases hv:vs.toList with
     |nil=>rfl
     |cons _ _=>rw[hv] at hp;trivial
    subst hvs
    obtain⟨ii,d,_,h1,_,h2,_⟩:=T.info ht
    have amH:=dm h2
    rw[hty] at amH hz1
    have hrc:=(fN (E:=E) (w:=w) hz1).1
    cases hd:d with
    |
     struct fs=>
     subst hd
     simp only[ck,hty] at h2
     have hfs:fs= #[]:=by
      grind [cc]
     subst hfs
     refine⟨.agg z.cells,?_,RV.eS (Or.inl ⟨rfl,z.cells,rfl,hrc⟩)⟩
     simp[Instr.build,hz,underlying,h1,Instr.fill]
    |
     array n e=>
     grind [ck]
    |_=>grind [dr,Ty.isAgg]
   grind
  grind
 grind
def lO(G:bN)(d:Nat)(t:TypeId)(len:Nat)(ps:List (Nat×AV)):Option (AV×aO):=
 match G.at t with
 |
  some td=>match td.ty with
  | .slice bs u=>if u.pure&&Nat.ble (len*u.size) 16777216&&Nat.ble (len*bs) aH&&Nat.ble len aH then(D8 u (List.replicate len u.aD) ps).map fun xs=>(.own d,.row td.e bs u xs) else none
  |_=>none
 |none=>none
theorem zN{u:Ty}{z:List Value}(hz:Rel w S u z u.aD)(_hu:0<u.size)(len:Nat)(zc:Array Value)(hzc:zc.toList=z):
 bk (Rel w S u) ((Array.range (len*u.size)).map (zc[· % zc.size]!)).toList (List.replicate len u.aD):=by
 have hl:=Rel.len hz
 have hs:zc.size=u.size:=by grind
 refine bk.Da u.aD u.size len _ (by simp) ?_
 intro i hi
 have:((((Array.range (len*u.size)).map (zc[· % zc.size]!)).toList.drop (i*u.size)).take u.size)=z:=by
  apply List.ext_getElem?
  intro j
  rw[List.getElem?_take]
  by_cases hj:j<u.size
  ·rw[aA hj,List.getElem?_drop]
   have hb:(i+1)*u.size≤len*u.size:=ji _ hi
   rw[gX,Nat.one_mul] at hb
   have hij:i*u.size+j<len*u.size:=by omega
   simp only[Array.getElem?_toList,Array.getElem?_map]
   rw[Array.getElem?_range,aA hij]
   grind [Nat.mul_comm,Nat.mul_add_mod,Nat.mod_eq_of_lt]
  grind
 grind
variable{σ:St}
theorem uA{G:bN}(T:bA P G){gl:Ctx}{a:Act}(h:bQ gl σ E a w){d:Nat}(hf:σ.fresh d){t:TypeId}{len:Nat}{vs:Array (Nat×Value)}(hp:RP E w ps vs.toList){r:AV}{k:aO}(hb:lO G d t len ps=some (r,k)):
 ∃v w' E',(Instr.buildSlice t len vs).run P w= .ok v w'∧bQ gl (σ.cQ d (some k)) E' a w'∧RV E' w' r v∧Ext gl.md (bx σ.hp E) E w (bx (σ.cQ d (some k)).hp E') E' w':=by
 unfold lO at hb
 split at hb
 ·rename_i td ht
  split at hb
  ·rename_i bs u hty
   split at hb
   ·rename_i hc
    simp only[bj] at hc
    obtain⟨⟨⟨hpure,hc1⟩,hc2⟩,hc3⟩:=hc
    have hc1:=iU hc1
    have hc2:=iU hc2
    have hc3:=iU hc3
    obtain⟨xs,hxs,e⟩:=Option.map_eq_some_iff.1 hb
    cases e
    obtain⟨te,ie,h1,h2,h3,h4,h5,h6,h7⟩:=T.eW ht hty
    obtain⟨z,hz,hz1,hz2⟩:=T.zero h2 w
    have hsz:=T.size h2 w
    rw[h3] at hsz hz1
    have hrel:=(fN (E:=E) (w:=w) hz1).2 hpure
    have hmade:=zN hrel h6 len z.cells rfl
    obtain⟨amE,f1,f2,f3⟩:=xm hp hmade hxs
    rw[tG] at f3
    have hcl:amE.size=len*u.size:=by
     grind [bk.len,Rel.len,pv]
    have amQ:(Instr.buildSlice t len vs).run P w= .ok (.slice (some ⟨w.heap.size,0,none⟩) len len) {w with heap:=w.heap.push (.cells amE td.e)}:=by
     have hns:¬(len*u.size>2^24):=by
      grind
     by_cases hn:len*u.size=0
     ·have e0:len=0:=by
       rcases Nat.mul_eq_zero.1 hn with h|h<;>grind
      subst e0
      have f1':Instr.fill (fun i=>some (i*u.size,u.size)) ((Array.range (0*u.size)).map ((#[]:Array Value)[· % (#[]:Array Value).size]!)) vs.toList=some amE:=by
       grind
      simp only[Instr.buildSlice,Sem.run_bind,underlying,run_program,Result.andThen_ok,h1,Sem.run_pure,hsz,aC hns,aA hn]
      rw[f1']
      trivial
     ·simp only[Instr.buildSlice,Sem.run_bind,underlying,run_program,Result.andThen_ok,h1,Sem.run_pure,hsz,aC hns,aC hn,hz]
      rw[f1]
      trivial
    have kp:bE E w (E.at d (some w.heap.size) (.slice (some ⟨w.heap.size,0,none⟩) len len) (.arr len u)) {w with heap:=w.heap.push (.cells amE td.e)}:=⟨fun b hb=>iQ _ _ _ (h.hw.slt b hb),fun b hb=>hb⟩
    obtain⟨q1,q2⟩:=h.fresh hf (w':={w with heap:=w.heap.push (.cells amE td.e)}) (g:=some w.heap.size) (sv:=.slice (some ⟨w.heap.size,0,none⟩) len len) (t:=.arr len u) (k:=.row td.e bs u xs) rfl (Tp.r rfl rfl) rfl (by simp) (fun i hi=>iQ _ _ _ hi) (fun i hi=>by grind)
     (by
      refine⟨by simp[Env.at,f3],by grind,by grind,h6,some ⟨w.heap.size,0,none⟩,len,by simp[Env.at,f3],?_,Or.inr ⟨w.heap.size,amE,by simp[Env.at],rfl,oR _ _,hcl,by omega,?_⟩⟩
      ·unfold aH at hc3;unfold maxLen;omega
      ·rw[f3,←hcl,gm (by simp)]
       exact bk.mono (fun _ _=>Rel.mono kp.w kp.S) f2)
    exact⟨_,_,_,amQ,q1,RV.eS (Or.inr ⟨rfl,by simp[Env.at],some ⟨w.heap.size,0,none⟩,len,len,by simp[Env.at]⟩),q2⟩
   grind
  grind
 grind
def UX(hb:Nat→Option aO)(bs:Nat)(u:Ty):AV→Option (List u.den)
 | .val (.slice bs' u') xs=>if h:Ty.same u' u=true then if Nat.beq bs' bs then some (Ty.aB h▸xs) else none else none
 | .bn=>some []
 |
  .own b=>match hb b with
  |some (.row _ bs' u' xs)=>if h:Ty.same u' u=true then if Nat.beq bs' bs then some (Ty.aB h▸xs) else none else none
  |_=>none
 |_=>none
def Yq(E:Env)(w:World)(bs:Nat)(u:Ty)(v:Value)(xs:List u.den):Prop:=
 ∃a cap,v= .slice a xs.length cap∧xs.length≤cap∧xs.length*bs≤aH∧xs.length≤aH∧
  (xs= []∨∃g o cs,a=some ⟨g,o,none⟩∧qf w ⟨g,o,none⟩ cs∧bk (Rel w E.S u) cs xs)
theorem P2{gl:Ctx}(hw:HW gl E w hp)(hB:HB hb hp){u:Ty}{x:AV}{v:Value}{xs:List u.den}(hx:RV E w x v)(h:UX hb bs u x=some xs):Yq E w bs u v xs:=by
 unfold UX at h
 split at h
 ·rename_i bs' u' ys
  split at h
  ·rename_i hs
   split at h
   ·rename_i hb'
    have e:=Ty.aB hs
    subst e
    have:=bM hb';subst this
    cases h
    obtain⟨a,cap,e,h1,h2,h3,h4⟩:=RV.atom rfl hx
    simp at e;subst e
    refine⟨a,cap,rfl,h1,h2,h3,h4.imp id ?_⟩<;>grind
   grind
  grind
 ·cases h
  have hx:=RV.atom rfl hx
  simp[RC] at hx;subst hx
  exact⟨none,0,rfl,dP _,by simp,by simp,Or.inl rfl⟩
 ·rename_i b
  split at h
  ·rename_i e0 bs' u' ys hk
   split at h
   ·rename_i hs
    split at h
    ·rename_i hb'
     have e:=Ty.aB hs
     subst e
     have:=bM hb';subst this
     cases h
     have hx:=RV.atom rfl hx
     obtain⟨hr,_⟩:=hx
     simp at hr
     obtain⟨h1,h2,h3,h4,a,cap,h5,h6,h7⟩:=hw.cQ b _ (hB b _ hk)
     rw[h5] at hr
     subst hr
     rcases h7 with⟨⟨h7,_⟩,h8,h9⟩|⟨g,c,h7,h8,h9,h10,h11,h12⟩
     ·subst h9;exact⟨a,cap,rfl,by simp,h2,h3,Or.inl rfl⟩
     ·refine⟨a,cap,rfl,h11,h2,h3,Or.inr ⟨g,0,_,h8,?_,h12⟩⟩
      have:=qf.of_heap h9 0 (List.length ys*u'.size)
      grind
    grind
   grind
  grind
 grind
def xn(G:bN)(hb:Nat→Option aO)(d:Nat)(t t2:TypeId)(s x:AV):Option (fF):=
 match G.at t with
 |
  some td=>match td.ty with
  |
   .slice bs u=>if Nat.beq t t2 then(match UX hb bs u x with
   |
    some ys=>match s with
    | .bn=>some ⟨.own d,[(d,some (.row td.e bs u ys))],[d],[vc (ys.length*bs≤aH)]⟩
    |
     .own b=>match hb b with
     |some (.row e' bs' u' xs)=>if h:Ty.same u' u=true then if Nat.beq bs' bs&&Nat.beq e' td.e&& !Nat.beq b d then some ⟨.own d,[(b,none),(d,some (.row td.e bs u ((Ty.aB h▸xs:List u.den)++ys)))],[d],[vc ((xs.length+ys.length)*bs≤aH)]⟩ else none else none
     |_=>none
    |_=>none
   |none=>none) else none
  |_=>none
 |none=>none
variable{ty:TypeId}
theorem uB{t e:TypeId}{i:TypeInfo}(ht:P.underlying t=some (.slice e))(hi:P.info? e=some i)(a a2:Option Addr)(n cap c:Nat)(hn:n≤cap):
 (Builtin.append_ #[t,t] ty #[.slice a n cap,.slice a2 0 c]).run P w= .ok (.slice a n cap) w:=by
 have hf:(Builtin.firstCells i.size 0 (.slice a2 0 c)).run P w= .ok #[] w:=by
  cases a2<;>simp[Builtin.firstCells,loadCells,loadCellsFrom]
 cases a with
 |none=>simp[Builtin.append_,run_underlying ht,sizeOf,typeInfo,hi,Builtin.lenOf,hn,hf]
 |some a=>simp[Builtin.append_,run_underlying ht,sizeOf,typeInfo,hi,Builtin.lenOf,hn,hf,storeCells]
theorem bk.cells_one{u:Ty}{xs:List u.den}(h:bk (Rel w S u) cs xs):∀v∈cs,v.oneCell'=true:=
 Rel.one (t:=.arr xs.length u) (x:=xs) (w:=w) (S:=S) ⟨rfl,h⟩
def o9(E:Env)(w0 w:World)(e:TypeId)(u:Ty)(v:Value)(g:Option Nat)(xs:List u.den):Prop:=
 (v= .slice none 0 0∧xs= []∧g=none)∨
 ∃i cap cur,g=some i∧v= .slice (some ⟨i,0,none⟩) xs.length cap∧w.heap[i]? =some (.cells cur e (0,0))∧xs.length≤cap∧cap≤maxLen∧cur.size=cap*u.size∧bk (Rel w0 E.S u) (cur.toList.take (xs.length*u.size)) xs
theorem xo{gl:Ctx}{G:bN}(T:bA P G){t:TypeId}(ht:G.at t=some td){u:Ty}(hty:td.ty= .slice bs u)
 {v x:Value} {g:Option Nat} {xs ys:List u.den} (hv:o9 E w w td.e u v g xs) (hx:Yq E w bs u x ys) (hb:(xs.length+ys.length)*bs≤aH):
 ∃v' w' g',(Builtin.append_ #[t,t] ty #[v,x]).run P w= .ok v' w'∧o9 E w w' td.e u v' g' (xs++ys)∧w'.os=w.os∧Tp gl.md w w'∧w'.output=w.output∧w.heap.size≤w'.heap.size∧
  (∀k,k<w.heap.size→g≠some k→w'.heap[k]? =w.heap[k]?)∧(∀k,g'=some k→g=some k∨w.heap.size≤k):=by
 obtain⟨te,ie,h1,h2,h3,h4,h5,h6,h7⟩:=T.eW ht hty
 obtain⟨a,c,rfl,hc1,hc2,hc3,hx⟩:=hx
 have hmn:xs.length+ys.length≤aH:=dh (Nat.le_mul_of_pos_right _ h7) hb
 obtain⟨i',d',h1i,_,hsz,_,z,hz,hz1,_⟩:=T.info h2
 rw[h4] at h1i;cases h1i
 rw[h3] at hsz hz1
 have hzl:z.cells.size=u.size:=by
  have:=RC.len (fN (E:=E) (w:=w) hz1).1
  grind [AV.dU,Ty.su]
 rcases Nat.eq_zero_or_pos ys.length with hm|hm
 ·have hy:ys= []:=List.eq_nil_of_length_eq_zero hm
  subst hy
  have hn:∃ad n cap,v= .slice ad n cap∧n≤cap:=by
   rcases hv with⟨e,_,_⟩|⟨i,cap,cur,_,e,_,h,_⟩<;>grind
  obtain⟨ad,n,cap,e,hn⟩:=hn
  refine⟨v,w,g,?_,by grind,rfl,Tp.r rfl rfl,rfl,dP _,fun _ _ _=>rfl,fun k hk=>Or.inl hk⟩
  grind [uB]
 ·rcases hx with hx|⟨ga,oa,cs,rfl,hr,hrel⟩
  ·grind
  ·have hl:cs.length=ys.length*ie.size:=by grind [bk.len,Rel.len]
   have mx:aH≤maxLen:=by trivial
   have hbb:(xs.length+ys.length)*ie.bytes≤140737488355328:=by rw[h5];exact hb
   have grown:∀(old:Nat)(os:List Value),bk (Rel w E.S u) os xs→
    o9 E w (w.drew.alloc (.cells (os.toArray++cs.toArray++Builtin.zeroCells z.cells (grownCap w (xs.length+ys.length) old td.e -(xs.length+ys.length))) td.e)) td.e u
     (.slice (some ⟨w.heap.size,0,none⟩) (xs.length+ys.length) (grownCap w (xs.length+ys.length) old td.e)) (some w.heap.size) (xs++ys):=by
    intro old os hos
    have hge:=grownCap_ge w (xs.length+ys.length) old td.e
    have hol:os.length=xs.length*u.size:=bk.len (fun _ _ h=>Rel.len h) hos
    refine Or.inr ⟨w.heap.size,_,_,rfl,by rw[kG],heap_alloc_new w.drew _,by grind,grownCap_le_maxLen w _ _ _ (by omega),?_,?_⟩
    ·simp only[Array.size_append,List.size_toArray,size_zeroCells,hzl,hol,hl,hsz,←gX]
     grind
    grind [bk.append,gX]
   rcases hv with⟨rfl,rfl,rfl⟩|⟨i,cap,cur,rfl,rfl,hg,hnc,hcm,hcs,hrelx⟩
   ·have hbb0:ys.length*ie.bytes≤140737488355328:=by grind
    have hr':=run_append_nil (P:=P) w t ty td.e ie z h1 h4 hz ⟨ga,oa,none⟩ ys.length c cs hl hr hm (by unfold aH at hmn;omega) (by omega)
    have hgr:=grown 0 [] rfl
    simp only[List.length_nil,eN,List.nil_append] at hgr ⊢
    refine⟨_,_,some w.heap.size,hr',?_,rfl,Tp.s rfl rfl,rfl,by simp,fun k hk _=>heap_alloc_old w.drew _ k hk,fun k hk=>by cases hk;exact Or.inr (dP _)⟩<;>grind
   ·by_cases hroom:xs.length+ys.length≤cap
    ·have hfit:xs.length*ie.size+cs.length≤cur.size:=by rw[hl,hcs,hsz,←gX];exact ji _ hroom
     have hr':=run_append_room (P:=P) w t ty td.e ie h1 h4 i xs.length cap cur hg ⟨ga,oa,none⟩ ys.length c cs hl hr (bk.cells_one hrel) hroom hfit
     refine⟨_,_,some i,hr',Or.inr ⟨i,cap,_,rfl,by grind,setRow_heap w i cur _ td.e _ hg,by grind,hcm,?_,?_⟩,rfl,Tp.r rfl rfl,rfl,by simp,fun k _ hk=>setRow_other w i k _ (fun e=>hk (by rw[e])),fun k hk=>Or.inl hk⟩
     ·grind
     ·rw[hsz] at hfit ⊢
      have hol:(cur.toList.take (xs.length*u.size)).length=xs.length*u.size:=by grind
      grind [gX,bk.append]
    ·have holds:∀j v,(cur.toList.take (xs.length*u.size))[j]? =some v→w.cell? ((⟨i,0,none⟩:Addr).add j)=some v:=by
      have:=qf.of_heap hg 0 (xs.length*u.size)
      trivial
     have hol:(cur.toList.take (xs.length*u.size)).length=xs.length*ie.size:=by
      simp_all
     have hr':=run_append_grow (P:=P) w t ty td.e ie z h1 h4 hz ⟨i,0,none⟩ xs.length cap _ hol holds ⟨ga,oa,none⟩ ys.length c cs hl hr (by omega) (by unfold aH at hmn;omega) (growslice_fits (by omega) hbb)
     exact⟨_,_,some w.heap.size,hr',grown cap _ hrelx,rfl,Tp.s rfl rfl,rfl,by simp,fun k hk _=>heap_alloc_old w.drew _ k hk,fun k hk=>by grind⟩
variable{k':aO}{sv:Value}
theorem HW.swap{gl:Ctx}(h:HW gl E w hp){b d:Nat}{k:aO}{g:Option Nat}{t:Ty}(hb:hp[b]? =some (some k))(hbd:b≠d)
 (hsz:w.heap.size≤w'.heap.size) (hold:∀i,i<w.heap.size→E.g b≠some i→w'.heap[i]? =w.heap[i]?) (hids:∀(c:Nat)(k':aO),hp[c]? =some (some k')→d∉k'.ids)
 (hg:∀i,g=some i→E.g b=some i∨w.heap.size≤i) (hk:RB (E.at d g sv t) w' d k'):HW gl (E.at d g sv t) w' ((hp.set b none).set d (some k')):=by
 have kp:bE E w (E.at d g sv t) w':=⟨fun i hi=>hold i (h.slt i hi) (fun e=>h.jI b k i hb e hi),fun b hb=>hb⟩
 have old:∀(c:Nat)(k2:aO),c≠d→((hp.set b none).set d (some k'))[c]? =some (some k2)→hp[c]? =some (some k2)∧c≠b:=by
  grind
 have hno:∀(c:Nat)(k2:aO)(i:Nat),hp[c]? =some (some k2)→c≠b→E.has c i→g≠some i:=by
  intro c k2 i hc hcb hgi e
  rcases hg i e with h1|h1
  ·exact hcb (h.ew c b k2 k i hc hb hgi (Or.inl h1))
  ·have:=bx.below h ⟨c,k2,hc,hgi⟩;omega
 refine⟨?_,?_,?_,fun i hi=>mK (h.slt i hi) hsz,h.gJ kp,?_⟩
 ·intro c k2 hc
  by_cases e:c=d
  ·grind
  ·obtain⟨hc',hcb⟩:=old c k2 e hc
   refine RB.mono kp (Env.C9 ?_) ?_ (fun _ g hg=>by simpa[Env.at,e] using hg) (h.cQ c k2 hc')
   ·grind
   ·intro i hi
    exact hold i (bx.below h ⟨c,k2,hc',hi⟩) (fun e'=>hcb (h.ew c b k2 k i hc' hb hi (Or.inl e')))
 ·intro c c' k1 k2 i hc hc' g1 g2
  by_cases e:c=d<;>by_cases e':c'=d
  ·grind
  ·grind [Env.j9,Env.jc]
  ·grind [Env.j9,Env.jc]
  ·exact h.ew c c' k1 k2 i (old c k1 e hc).1 (old c' k2 e' hc').1 ((Env.jc e).1 g1) ((Env.jc e').1 g2)
 ·intro c k1 i hc g1 hs
  by_cases e:c=d
  ·subst e
   rcases hg i (Env.j9.1 g1) with h1|h1
   ·exact h.jI b k i hb h1 hs
   ·have:=h.slt i hs;omega
  ·exact h.dC c k1 i (old c k1 e hc).1 ((Env.jc e).1 g1) hs
 ·intro c k1 i hc g1
  by_cases e:c=d
  ·subst e;simp[Env.at] at g1
  ·have g1:E.P c i:=by simpa[Env.at,e] using g1
   exact mK (h.uu c k1 i (old c k1 e hc).1 g1) hsz
theorem bQ.swap{gl:Ctx}{a:Act}(h:bQ gl σ E a w){b d:Nat}{k:aO}{g:Option Nat}{t:Ty}(hf:σ.fresh d)(hb:σ.hp[b]? =some (some k))(hbd:b≠d)
 (hos:w'.os=w.os) (hta:Tp gl.md w w') (hou:w'.output=w.output) (hsz:w.heap.size≤w'.heap.size) (hold:∀i,i<w.heap.size→E.g b≠some i→w'.heap[i]? =w.heap[i]?)
 (hg:∀i,g=some i→E.g b=some i∨w.heap.size≤i) (hk:RB (E.at d g sv t) w' d k'):
 bQ gl {σ with hp:=aS σ.hp [(b,none),(d,some k')]} (E.at d g sv t) a w'∧Ext gl.md (bx σ.hp E) E w (bx (aS σ.hp [(b,none),(d,some k')]) (E.at d g sv t)) (E.at d g sv t) w':=by
 have kp:bE E w (E.at d g sv t) w':=⟨fun i hi=>hold i (h.hw.slt i hi) (fun e=>h.hw.jI b k i hb e hi),fun b hb=>hb⟩
 have hw:=h.hw.swap (w':=w') (sv:=sv) (t:=t) hb hbd hsz hold (fun c k' hk hm=>hf.1 (St.AB hk d hm)) hg hk
 refine⟨h.carry kp (Env.C9 hf.1) hw,hos,hta,hou,hsz,?_,fun i hi=>hi,fun i hi=>Or.inl hi,?_,Env.Lq hf.2.2⟩
 ·intro i hi hn
  exact hold i hi (fun e=>hn ⟨b,k,hb,Or.inl e⟩)
 ·rintro i ⟨c,k2,hc,hgi⟩
  simp only[aS] at hc
  by_cases e:c=d
  ·subst e
   exact(hg i (Env.j9.1 hgi)).imp (fun h1=>⟨b,k,hb,Or.inl h1⟩) id
  ·have hgi:=(Env.jc e).1 hgi
   rw[dv,aC (fun e'=>e e'.symm),dv] at hc
   split at hc
   ·grind
   ·exact Or.inl ⟨c,k2,hc,hgi⟩
theorem o9.RB{e:TypeId}{u:Ty}{v:Value}{g:Option Nat}{xs:List u.den}{d:Nat}(h:o9 E w w' e u v g xs)(hu:0<u.size)(hb:xs.length*bs≤aH)(hm:xs.length≤aH)(kp:bE E w (E.at d g v (.arr xs.length u)) w'):
 RB (E.at d g v (.arr xs.length u)) w' d (.row e bs u xs)∧RV (E.at d g v (.arr xs.length u)) w' (.own d) v:=by
 rcases h with⟨rfl,rfl,rfl⟩|⟨i,cap,cur,rfl,rfl,h1,h2,h3,h4,h5⟩
 ·refine⟨⟨by simp[Env.at],by simp,by simp,hu,none,0,by simp[Env.at],by simp[maxLen],Or.inl ⟨⟨rfl,rfl⟩,by simp[Env.at],rfl⟩⟩,RV.eS (Or.inr ⟨rfl,by simp[Env.at],none,0,0,by simp[Env.at]⟩)⟩
 ·refine⟨⟨by simp[Env.at],hb,hm,hu,some ⟨i,0,none⟩,cap,by simp[Env.at],h3,Or.inr ⟨i,cur,by simp[Env.at],rfl,h1,h4,h2,bk.mono (fun _ _=>Rel.mono kp.w kp.S) h5⟩⟩,RV.eS (Or.inr ⟨rfl,by simp[Env.at],some ⟨i,0,none⟩,xs.length,cap,by simp[Env.at]⟩)⟩
variable{vx:Value}{t2:TypeId}
theorem Ea{G:bN}(T:bA P G){gl:Ctx}{a:Act}(h:bQ gl σ E a w)(hB:HB hb σ.hp){d:Nat}{t:TypeId}{s x:AV}{vs:Value}(hs:RV E w s vs)(hx:RV E w x vx){r:fF}
 (he:xn G hb d t t2 s x=some r) (hvc:dD r.vc) (hfr:∀b∈r.fr,σ.fresh b):
 ∃v w' E',(Builtin.append_ #[t,t2] ty #[vs,vx]).run P w= .ok v w'∧bQ gl {σ with hp:=aS σ.hp r.hw} E' a w'∧RV E' w' r.v v∧Ext gl.md (bx σ.hp E) E w (bx (aS σ.hp r.hw) E') E' w':=by
 unfold xn at he
 split at he
 ·rename_i td ht
  split at he
  ·rename_i bs u hty
   split at he
   ·rename_i ht2
    have:=bM ht2;subst this
    obtain⟨te,ie,h1,h2,h3,h4,h5,h6,h7⟩:=T.eW ht hty
    split at he
    ·rename_i ys hys
     have hsl:=P2 h.hw hB hx hys
     split at he
     ·cases he
      have hbd:ys.length*bs≤aH:=hvc.1
      have hs:=RV.atom rfl hs
      simp[RC] at hs;subst hs
      obtain⟨v',w',g',r1,r2,r3,r4,r5,r6,r7,r8⟩:=xo (P:=P) T (ty:=ty) ht hty (xs:=[]) (g:=none) (Or.inl ⟨rfl,rfl,rfl⟩) hsl (by grind)
      simp only[List.nil_append] at r2
      have kp:bE E w (E.at d g' v' (.arr ys.length u)) w':=⟨fun i hi=>r7 i (h.hw.slt i hi) (by simp),fun _ h=>h⟩
      obtain⟨q1,q2⟩:=o9.RB (bs:=bs) (d:=d) r2 h6 hbd (dh (Nat.le_mul_of_pos_right _ h7) hbd) kp
      obtain⟨z1,z2⟩:=h.fresh (hfr d (by simp)) (w':=w') (g:=g') (sv:=v') (t:=.arr ys.length u) (k:=.row td.e bs u ys) r3 r4 r5 r6 (fun i hi=>r7 i hi (by simp)) (fun i hi=>(r8 i hi).resolve_left (by simp)) q1
      exact⟨v',w',_,r1,z1,q2,z2⟩
     ·rename_i b
      split at he
      ·rename_i e' bs' u' xs hk
       split at he
       ·rename_i hsame
        split at he
        ·rename_i hc
         simp only[bj,gZ] at hc
         have e:=Ty.aB hsame
         subst e
         have:=bM hc.1.1;subst this
         have:=bM hc.1.2;subst this
         have hne:b≠d:=fun e=>by simp_all
         cases he
         have hbd:(xs.length+ys.length)*bs'≤aH:=hvc.1
         have hs:=RV.atom rfl hs
         obtain⟨hs,_⟩:=hs
         simp at hs;subst hs
         have hkb:=hB b _ hk
         obtain⟨b1,b2,b3,b4,ad,cap,b5,b6,b7⟩:=h.hw.cQ b _ hkb
         have hrow:o9 E w w td.e u' (E.sv b) (E.g b) xs:=by
          rw[b5]
          rcases b7 with⟨⟨b7,b7'⟩,b8,b9⟩|⟨i,cur,b7,b8,b9,b10,b11,b12⟩
          ·subst b9;subst b7;subst b7';exact Or.inl ⟨rfl,rfl,b8⟩
          ·subst b8;exact Or.inr ⟨i,cap,cur,b7,rfl,b9,b11,b6,b10,b12⟩
         obtain⟨v',w',g',r1,r2,r3,r4,r5,r6,r7,r8⟩:=xo (P:=P) T (ty:=ty) ht hty hrow hsl hbd
         have kp:bE E w (E.at d g' v' (.arr (xs++ys).length u')) w':=⟨fun i hi=>r7 i (h.hw.slt i hi) (fun e=>h.hw.jI b _ i hkb e hi),fun _ h=>h⟩
         have hlen:(xs++ys).length=xs.length+ys.length:=kG
         obtain⟨q1,q2⟩:=o9.RB (bs:=bs') (d:=d) r2 h6 (by grind) (by rw[hlen];exact dh (Nat.le_mul_of_pos_right _ h7) hbd) kp
         obtain⟨z1,z2⟩:=h.swap (hfr d (by simp)) hkb hne r3 r4 r5 r6 r7 r8 q1
         grind
        grind
       grind
      grind
     grind
    grind
   grind
  grind
 grind
def Fo:Option AV→Option (Option Int)
 |none=>some none
 |some (.val (.int _) i)=>some (some i)
 |some _=>none
def RO(E:Env)(w:World):Option AV→Option Value→Prop
 |none,none=>True
 |some x,some v=>RV E w x v
 |_,_=>False
def fG(lo hi mx:Option Int)(n:Nat):Nat×Nat×List VC:=
 match lo,hi,mx with
 |none,none,none=>(0,n,[])
 |some l,none,none=>(l.toNat,n,[vc (0≤l),vc (l≤n)])
 |none,some h,none=>(0,h.toNat,[vc (0≤h),vc (h≤n)])
 |some l,some h,none=>(l.toNat,h.toNat,[vc (0≤l),vc (l≤h),vc (h≤n)])
 |none,some h,some m=>(0,h.toNat,[vc (0≤h),vc (h≤m),vc (m≤n)])
 |some l,some h,some m=>(l.toNat,h.toNat,[vc (0≤l),vc (l≤h),vc (h≤m),vc (m≤n)])
 |_,none,some _=>(0,0,[vc False])
variable{vl:Option Value}{vh:Option Value}{vm:Option Value}{lo:Option AV}{hi:Option AV}{mx:Option AV}
theorem uC{l h m:Option Int}(hl:RO E w lo vl)(hh:RO E w hi vh)(hm:RO E w mx vm)(el:Fo lo=some l)(eh:Fo hi=some h)(em:Fo mx=some m)
 (Mo:Bool) (n cap:Nat) (hn:n≤cap) (hvc:dD (fG l h m n).2.2):
 ∃mm,(Instr.sliceBounds Mo n cap vl vh vm).run P w= .ok ((fG l h m n).1,(fG l h m n).2.1,mm) w∧(fG l h m n).1≤(fG l h m n).2.1∧(fG l h m n).2.1≤n∧(fG l h m n).2.1≤mm∧mm≤cap∧(m=none→mm=cap):=by
 have key:∀{x:Option AV}{v:Option Value}{i:Option Int},RO E w x v→Fo x=some i→(i=none∧v=none)∨∃k j,i=some j∧v=some (.int k j):=by
  intro x v i hr hb
  cases x with
  |
   none=>cases v with
   |none=>cases hb<;>grind
   |some v=>trivial
  |
   some x=>cases v with
   |none=>trivial
   |
    some v=>
    cases x with
    |
     val t y=>
     cases t<;>simp[Fo] at hb
     rename_i k
     obtain⟨rfl,_⟩:=RV.eG hr
     grind
    |_=>trivial
 rcases key hl el with⟨rfl,rfl⟩|⟨kl,jl,rfl,rfl⟩<;>rcases key hh eh with⟨rfl,rfl⟩|⟨kh,jh,rfl,rfl⟩<;>rcases key hm em with⟨rfl,rfl⟩|⟨km,jm,rfl,rfl⟩
 ·simp_all[Instr.sliceBounds,fG]
 ·exact hvc.1.elim
 ·obtain⟨h1,h2,_⟩:=hvc
  refine⟨cap,?_,by simp[fG],by simp[fG];omega,by simp[fG];omega,dP _,fun _=>rfl⟩
  have b1:(jh:Int)≤cap:=by omega
  simp_all[Instr.sliceBounds,fG,run_sliceBound]
 ·obtain⟨h1,h2,h3,_⟩:=hvc
  refine⟨jm.toNat,?_,by simp[fG],by simp[fG];omega,by simp[fG];omega,by omega,fun h=>by cases h⟩
  have b1:(jm:Int)≤cap:=by omega
  have b2:(jh:Int)≤(jm.toNat:Nat):=by omega
  simp[Instr.sliceBounds,fG,run_sliceBound (P:=P) w km jm cap _ (by omega) b1,run_sliceBound (P:=P) w kh jh jm.toNat _ h1 b2]
 ·obtain⟨h1,h2,_⟩:=hvc
  simp_all[fG,Instr.sliceBounds,run_sliceBound]
 ·exact hvc.1.elim
 ·obtain⟨h1,h2,h3,_⟩:=hvc
  refine⟨cap,?_,by simp[fG];omega,by simp[fG];omega,by simp[fG];omega,dP _,fun _=>rfl⟩
  have b1:(jh:Int)≤cap:=by omega
  have b2:(jl:Int)≤(jh.toNat:Nat):=by omega
  simp[Instr.sliceBounds,fG,run_sliceBound (P:=P) w kh jh cap _ (by omega) b1,run_sliceBound (P:=P) w kl jl jh.toNat _ h1 b2]
 ·obtain⟨h1,h2,h3,h4,_⟩:=hvc
  refine⟨jm.toNat,?_,by simp[fG];omega,by simp[fG];omega,by simp[fG];omega,by omega,fun h=>by cases h⟩
  have b1:(jm:Int)≤cap:=by omega
  have b2:(jh:Int)≤(jm.toNat:Nat):=by omega
  have b3:(jl:Int)≤(jh.toNat:Nat):=by omega
  simp[Instr.sliceBounds,fG,run_sliceBound (P:=P) w km jm cap _ (by omega) b1,run_sliceBound (P:=P) w kh jh jm.toNat _ (by omega) b2,run_sliceBound (P:=P) w kl jl jh.toNat _ h1 b3]
def ou{α:Type}(xs:List α)(l h:Nat):List α:=(xs.drop l).take (h -l)
def Eb(G:bN)(hb:Nat→Option aO)(t:TypeId)(x:AV)(l h m:Option Int):Option (AV×List VC):=
 match G.at t with
 |
  some td=>
  match td.ty,x with
  | .slice bs u,.val (.slice bs' u') xs=>if Nat.beq bs bs'&&Ty.same u u' then some (.val (.slice bs' u') (ou xs (fG l h m xs.length).1 (fG l h m xs.length).2.1),(fG l h m xs.length).2.2) else none
  |
   .slice _ u,.own b=>match hb b,m with
   |some (.row _ _ u' xs),none=>if Ty.same u u' then some (.ku b (fG l h none xs.length).1 ((fG l h none xs.length).2.1 -(fG l h none xs.length).1),(fG l h none xs.length).2.2) else none
   |_,_=>none
  |_,_=>none
 |none=>none
def Bc(G:bN)(hb:Nat→Option aO)(t:TypeId)(x:AV)(lo hi mx:Option AV):Option (AV×List VC):=
 match Fo lo,Fo hi,Fo mx with
 |some l,some h,some m=>Eb G hb t x l h m
 |_,_,_=>none
theorem Addr.xp(g o k:Nat):((⟨g,o,none⟩:Addr).add k)=⟨g,o+k,none⟩:=by
 unfold Addr.add;grind
theorem ru{t e:TypeId}{sz n cap L H mm:Nat}{a:Option Addr}(h1:P.underlying t=some (.slice e))(hsz:(sizeOf e).run P w= .ok sz w)(hb:(Instr.sliceBounds true n cap vl vh vm).run P w= .ok (L,H,mm) w):
 (Instr.sliceAt t (.slice a n cap) vl vh vm).run P w= .ok (.slice (if mm=L then a else a.map (·.add (L*sz))) (H -L) (mm -L)) w:=by
 simp[Instr.sliceAt,Instr.slice,underlying,h1,hb,hsz]
theorem Gg{G:bN}(T:bA P G){gl:Ctx}(hw:HW gl E w hp)(hB:HB hb hp){t:TypeId}{x u:AV}{vc:List VC}
 (hx:RV E w x vx) (hl:RO E w lo vl) (hh:RO E w hi vh) (hm:RO E w mx vm) (he:Bc G hb t x lo hi mx=some (u,vc)) (hvc:dD vc):
 ∃v,(Instr.sliceAt t vx vl vh vm).run P w= .ok v w∧RV E w u v:=by
 unfold Bc at he
 split at he
 ·rename_i l h m el eh em
  have B:=fun Mo n cap hn hv=>uC (P:=P) hl hh hm el eh em Mo n cap hn hv
  unfold Eb at he
  split at he
  ·rename_i td ht
   split at he
   ·rename_i bs u bs' u' xs hty
    split at he
    ·rename_i hc
     cases he
     simp only[bj] at hc
     have:=bM hc.1;subst this
     have:=Ty.aB hc.2;subst this
     obtain⟨te,ie,h1,h2,h3,h4,h5,h6,h7⟩:=T.eW ht hty
     have hsz:=T.size h2 w
     rw[h3] at hsz
     obtain⟨a,cap,e,q1,q2,q3,q4⟩:=RV.atom rfl hx
     simp at e;subst e
     obtain⟨mm,b1,b2,b3,b4,b5,b6⟩:=B true xs.length cap q1 hvc
     generalize (fG l h m xs.length).1=L at*
     generalize (fG l h m xs.length).2.1=H at*
     refine⟨_,ru h1 hsz b1,?_⟩
     have hlen:(ou xs L H).length=H -L:=by simp[ou];omega
     refine RV.eS (Or.inr ⟨rfl,_,_,by rw[hlen],by grind,by rw[hlen];exact dh (ji _ (by omega)) q2,by grind,?_⟩)
     rcases Nat.eq_zero_or_pos (H -L) with hz|hz
     ·grind
     ·rcases q4 with q4|⟨b,o,cs,e1,e2,e3,e4⟩
      ·grind
      ·subst e1
       obtain⟨cs',z1,z2⟩:=bk.part e3 e4 L (H -L)
       refine Or.inr ⟨b,o+L*u.size,cs',?_,e2,z1,z2⟩
       rw[aC (by omega)]
       simp[Addr.xp]
    grind
   ·rename_i bs u b hty
    split at he
    ·rename_i e0 bs0 u' xs hk
     split at he
     ·rename_i hc
      cases he
      have:=Ty.aB hc;subst this
      obtain⟨te,ie,h1,h2,h3,h4,h5,h6,h7⟩:=T.eW ht hty
      have hsz:=T.size h2 w
      rw[h3] at hsz
      have hx:=RV.atom rfl hx
      obtain⟨hx,_⟩:=hx
      simp at hx;subst hx
      obtain⟨q1,q2,q3,q4,a,cap,q5,q6,q7⟩:=hw.cQ b _ (hB b _ hk)
      have hnc:xs.length≤cap:=by
       grind
      obtain⟨mm,b1,b2,b3,b4,b5,b6⟩:=B true xs.length cap hnc hvc
      have:=b6 rfl;subst this
      generalize (fG l h none xs.length).1=L at*
      generalize (fG l h none xs.length).2.1=H at*
      rw[q5]
      refine⟨_,ru h1 hsz b1,RV.eS (Or.inr ⟨rfl,a,mm,xs.length,u,q1,q5,by omega,hnc,_,rfl,?_⟩)⟩
      by_cases hL:L=0
      ·grind [Addr.xp]
      grind
     grind
    grind
   grind
  grind
 grind
def lP(G:bN)(d:Nat)(t:TypeId)(l c:Int):Option fF:=
 match G.at t with
 |
  some td=>match td.ty with
  | .slice bs u=>if u.pure then some ⟨.own d,[(d,some (.row td.e bs u (List.replicate l.toNat u.aD)))],[d],[vc (0≤l),vc (l≤c),vc (c*(bs:Int)≤aH)]⟩ else none
  |_=>none
 |none=>none
def lQ(G:bN)(d:Nat)(t:TypeId)(l c:Int):Option fF:=
 match G.at t with
 |
  some td=>match td.ty with
  |
   .slice bs (.slice bs2 t2)=>match G.at td.e with
   |some te=>if t2.pure&&Nat.blt 0 t2.size then some ⟨.own d,[(d,some (.cT td.e bs (.slice bs2 t2) (List.replicate l.toNat []) te.e none))],[d],[vc (0≤l),vc (l≤c),vc (c*(bs:Int)≤aH)]⟩ else none
   |none=>none
  |_=>none
 |none=>none
def nz(G:bN)(d:Nat)(t:TypeId):AV→AV→Option fF
 |
  .val (.int _) l,.val (.int _) c=>match lQ G d t l c with
  |some r=>some r
  |none=>lP G d t l c
 |_,_=>none
theorem xq{u:Ty}{n m:Nat}(h:bk (Rel w S u) cs (List.replicate n u.aD))(hm:m≤n):bk (Rel w S u) (cs.take (m*u.size)) (List.replicate m u.aD):=by
 have:=bk.take (n:=u.size) (fun _ _ h=>Rel.len h) m h
 grind
theorem uD{G:bN}(T:bA P G){gl:Ctx}{a:Act}(h:bQ gl σ E a w){d:Nat}{t:TypeId}{k k':IntKind}{l c:Int}{r:fF}
 (he:lP G d t l c=some r) (hvc:dD r.vc) (hfr:∀b∈r.fr,σ.fresh b):
 ∃v w' E',(Instr.makeSlice t (.int k l) (.int k' c)).run P w= .ok v w'∧bQ gl {σ with hp:=aS σ.hp r.hw} E' a w'∧RV E' w' r.v v∧Ext gl.md (bx σ.hp E) E w (bx (aS σ.hp r.hw) E') E' w':=by
 unfold lP at he
 split at he
 ·rename_i td ht
  split at he
  ·rename_i bs u hty
   split at he
   ·rename_i hpure
    cases he
    obtain⟨v1,v2,v3,_⟩:=hvc
    obtain⟨te,ie,h1,h2,h3,h4,h5,h6,h7⟩:=T.eW ht hty
    obtain⟨i',d',h1i,_,hsz,_,z,hz,hz1,_⟩:=T.info h2
    rw[h4] at h1i;cases h1i
    rw[h3] at hsz hz1
    have hcm:(c:Int)≤aH:=Int.le_trans (by
     have:c*1≤c*(bs:Int):=Int.mul_le_mul_of_nonneg_left (by omega) (by omega)
     omega) v3
    have hb':(ie.bytes:Int)*c≤281474976710656:=by
     grind [aH]
    have amQ:=run_make (P:=P) w t td.e ie z h1 h4 hz k k' l c v1 v2 hb' (by unfold aH at hcm;omega)
    rw[hsz] at amQ
    have hrel:=(fN (E:=E) (w:=w) hz1).2 hpure
    have hmade:=zN hrel h6 c.toNat z.cells rfl
    have hcells:(madeCells z.cells (c.toNat*u.size))=((Array.range (c.toNat*u.size)).map (z.cells[· % z.cells.size]!)):=by
     trivial
    rw[hcells] at amQ
    have hle:l.toNat≤c.toNat:=by omega
    have hrow:o9 E w (w.alloc (.cells ((Array.range (c.toNat*u.size)).map (z.cells[· % z.cells.size]!)) td.e)) td.e u (.slice (some ⟨w.heap.size,0,none⟩) l.toNat c.toNat) (some w.heap.size) (List.replicate l.toNat u.aD):=by
     refine Or.inr ⟨w.heap.size,c.toNat,_,rfl,by simp,heap_alloc_new w _,by grind,?_,by simp,?_⟩
     ·unfold aH at hcm;unfold maxLen;omega
     grind [xq]
    have kp:bE E w (E.at d (some w.heap.size) (.slice (some ⟨w.heap.size,0,none⟩) l.toNat c.toNat) (.arr (List.replicate l.toNat u.aD).length u)) (w.alloc (.cells ((Array.range (c.toNat*u.size)).map (z.cells[· % z.cells.size]!)) td.e)):=
     ⟨fun b hb=>heap_alloc_old w _ b (h.hw.slt b hb),fun b hb=>hb⟩
    have hlb:l.toNat*bs≤aH:=by
     have:((l.toNat*bs:Nat):Int)≤c*(bs:Int):=by
      rw[Int.natCast_mul]
      exact Int.mul_le_mul_of_nonneg_right (by omega) (by omega)
     omega
    obtain⟨q1,q2⟩:=o9.RB (bs:=bs) (d:=d) hrow h6 (by grind) (by grind) kp
    obtain⟨z1,z2⟩:=h.fresh (hfr d (by simp)) (w':=w.alloc _) (g:=some w.heap.size) rfl (Tp.r rfl rfl) rfl (by simp) (fun i hi=>heap_alloc_old w _ i hi) (fun i hi=>by grind) q1
    exact⟨_,_,_,amQ,z1,q2,z2⟩
   grind
  grind
 grind
theorem uE{G:bN}(T:bA P G){gl:Ctx}{a:Act}(h:bQ gl σ E a w){d:Nat}{t:TypeId}{k k':IntKind}{l c:Int}{r:fF}
 (he:lQ G d t l c=some r) (hvc:dD r.vc) (hfr:∀b∈r.fr,σ.fresh b):
 ∃v w' E',(Instr.makeSlice t (.int k l) (.int k' c)).run P w= .ok v w'∧bQ gl {σ with hp:=aS σ.hp r.hw} E' a w'∧RV E' w' r.v v∧Ext gl.md (bx σ.hp E) E w (bx (aS σ.hp r.hw) E') E' w':=by
 unfold lQ at he
 split at he
 ·rename_i td ht
  split at he
  ·rename_i bs bs2 u hty
   split at he
   ·rename_i te hte
    split at he
    ·rename_i hpure
     cases he
     simp only[bj] at hpure
     have hpos:0<u.size:=by simp_all
     obtain⟨v1,v2,v3,_⟩:=hvc
     obtain⟨te',ie,h1,h2,h3,h4,h5,h6,h7⟩:=T.eW ht hty
     obtain⟨i',d',h1i,_,hsz,_,z,hz,hz1,_⟩:=T.info h2
     rw[h4] at h1i;cases h1i
     rw[h3] at hsz hz1
     have hcm:(c:Int)≤aH:=Int.le_trans (by
      have:c*1≤c*(bs:Int):=Int.mul_le_mul_of_nonneg_left (by omega) (by omega)
      omega) v3
     have hb':(ie.bytes:Int)*c≤281474976710656:=by
      grind [aH]
     have amQ:=run_make (P:=P) w t td.e ie z h1 h4 hz k k' l c v1 v2 hb' (by unfold aH at hcm;omega)
     rw[hsz] at amQ
     have hzc:z.cells= #[Value.slice none 0 0]:=by
      cases hl:z.cells.toList with
      |nil=>rw[hl] at hz1;trivial
      |
       cons y ys=>
       cases ys with
       |cons _ _=>rw[hl] at hz1;trivial
       |
        nil=>
        rw[hl] at hz1
        have hz1:isZero (.slice bs2 u) y=true:=hz1
        apply mb
        rw[hl]
        cases y with
        |
         slice a n m=>
         simp_all[isZero]
        |_=>trivial
     have hcells:(madeCells z.cells (c.toNat*(Ty.slice bs2 u).size))=((Array.range c.toNat).map (fun _=>Value.slice none 0 0)):=by
      rw[hzc]
      have:(Ty.slice bs2 u).size=1:=rfl
      simp_all[madeCells,Nat.mod_one]
     rw[hcells] at amQ
     have hlb:l.toNat*bs≤aH:=by
      have:((l.toNat*bs:Nat):Int)≤c*(bs:Int):=by
       rw[Int.natCast_mul]
       exact Int.mul_le_mul_of_nonneg_right (by omega) (by omega)
      omega
     obtain⟨z1,z2⟩:=h.fresh (hfr d (by simp)) (w':=w.alloc (.cells ((Array.range c.toNat).map (fun _=>Value.slice none 0 0)) td.e)) (g:=some w.heap.size) (sv:=.slice (some ⟨w.heap.size,0,none⟩) l.toNat c.toNat) (t:=.arr l.toNat (.slice bs2 u))
      (k:=.cT td.e bs (.slice bs2 u) (List.replicate l.toNat []) te.e none) rfl (Tp.r rfl rfl) rfl (by simp) (fun i hi=>heap_alloc_old w _ i hi) (fun i hi=>by grind)
      (by
       refine⟨by simp[Env.at,wg],rfl,by grind,by grind,fun i v hv=>(by cases hv),w.heap.size,c.toNat,_,fun _=>none,by simp[Env.at],by unfold aH at hcm;unfold maxLen;omega,by simp[Env.at],heap_alloc_new w _,by simp,by grind,⟨fun i u hu=>(by cases hu),fun i j u hu=>(by cases hu)⟩,?_⟩
       intro i x hx
       rw[List.getElem?_replicate] at hx
       split at hx
       ·rename_i hi
        cases hx
        refine⟨.slice none 0 0,?_,fun v hv=>(by cases hv),fun _=>⟨by simp,by simp,hpos,none,0,rfl,gY _,Or.inl ⟨⟨rfl,rfl⟩,rfl,rfl⟩⟩⟩<;>grind
       grind)
     exact⟨_,_,_,amQ,z1,RV.eS (Or.inr ⟨rfl,by simp[RC,Env.at]⟩),z2⟩
    grind
   grind
  grind
 grind
theorem xr{G:bN}(T:bA P G){gl:Ctx}{a:Act}(h:bQ gl σ E a w){d:Nat}{t:TypeId}{l c:AV}{vl vc:Value}(hl:RV E w l vl)(hc:RV E w c vc){r:fF}
 (he:nz G d t l c=some r) (hvc:dD r.vc) (hfr:∀b∈r.fr,σ.fresh b):
 ∃v w' E',(Instr.makeSlice t vl vc).run P w= .ok v w'∧bQ gl {σ with hp:=aS σ.hp r.hw} E' a w'∧RV E' w' r.v v∧Ext gl.md (bx σ.hp E) E w (bx (aS σ.hp r.hw) E') E' w':=by
 unfold nz at he
 split at he
 ·obtain⟨rfl,_⟩:=RV.eG hl
  obtain⟨rfl,_⟩:=RV.eG hc
  split at he
  ·rename_i hp
   cases he
   exact uE T h hp hvc hfr
  ·exact uD T h he hvc hfr
 grind
def Cr{α:Type}(f:α→α→Bool):List α→List α→Bool
 |[],[]=>true
 |x::xs,y::ys=>f x y&&Cr f xs ys
 |_,_=>false
def W4{α:Type}(f:List α→List α→Bool):Option (List α)→Option (List α)→Bool
 |none,none=>true
 |some x,some y=>f x y
 |_,_=>false
theorem P3{f:List α→List α→Bool}(hf:∀x y,f x y=true↔x=y):∀(x y:Option (List α)),W4 f x y=true↔x=y
 |none,none=>by simp[W4]
 |none,some _=>by simp[W4]
 |some _,none=>by simp[W4]
 |some x,some y=>by simp[W4,hf]
def bl:(t:Ty)→t.den→t.den→Bool
 | .int _,x,y=>decide (@Eq Int x y)
 | .bool,x,y=>decide (@Eq Bool x y)
 | .str,x,y=>decide (@Eq (List UInt8) x y)
 | .arr _ t,x,y=>Cr (bl t) x y
 | .slice _ t,x,y=>Cr (bl t) x y
 | .pair a b,x,y=>bl a x.1 y.1&&bl b x.2 y.2
 | .unit,_,_=>true
 | .aT _,_,_=>true
 | .fns _,x,y=>decide (@Eq (List (Option Nat)) x y)
 | .map a b,x,y=>W4 (Cr fun p q=>bl a p.1 q.1&&bl b p.2 q.2) x y
theorem vg{f:α→α→Bool}(hf:∀x y,f x y=true↔x=y):∀(xs ys:List α),Cr f xs ys=true↔xs=ys
 |[],[]=>by simp[Cr]
 |[],_::_=>by simp[Cr]
 |_::_,[]=>by simp[Cr]
 |x::xs,y::ys=>by simp[Cr,hf,vg hf xs ys]
theorem cM:∀(t:Ty)(x y:t.den),bl t x y=true↔x=y:=by
 intro t
 induction t with
 |int k=>intro x y;simp[bl]
 |bool=>trivial
 |str=>intro x y;simp[bl]
 |arr n t ih=>intro x y;exact vg ih x y
 |slice n t ih=>intro x y;exact vg ih x y
 |pair a b ih1 ih2=>grind [bl]
 |unit=>intro x y;simp[bl]
 |aT k=>intro x y;simp[bl]
 |fns n=>intro x y;simp[bl]
 |map a b ih1 ih2=>intro x y;exact P3 (vg (fun p q=>by grind)) x y
def JY(k:TypeId→Ty→Bool):List Field→Ty→Bool
 |[],.unit=>true
 |f::fs,.pair a b=> !(f.name== "_")&&k f.type a&&JY k fs b
 |_,_=>false
def iM(P:Program)(G:bN):Nat→TypeId→Ty→Bool
 |0,_,_=>false
 |
  n+1,t,ty=>match G.at t with
  |
   some td=>Ty.same td.ty ty&&(match ty with
   | .int _| .bool| .str=>true
   | .arr _ u=>iM P G n td.e u
   | .pair a b=> !P.stoodInHeld t&&(match P.underlying t with|some (.struct fs)=>JY (iM P G n) fs.toList (.pair a b)|_=>false)
   |_=>false)
  |none=>false
section
variable{P:Program} {G:bN} (T:bA P G) {E:Env} {w:World}
include T
theorem ov{t:TypeId}{td:TD}(ht:G.at t=some td){x:td.ty.den}{cs:Array Value}{off:Nat}(h:Rel w E.S td.ty ((cs.toList.drop off).take td.ty.size) x)(hl:off+td.ty.size≤cs.size):
 ∃v,(part t cs off).run P w= .ok v w∧bZ E w (.val td.ty x) v:=by
 by_cases ha:td.ty.isAgg=true
 ·refine⟨.agg (cs.extract off (off+td.ty.size)),by simp[part,T.isAgg ht,T.size ht,ha],Or.inl ⟨ha,_,rfl,?_⟩⟩
  rw[Array.toList_extract,List.extract_eq_take_drop,qv]
  exact h
 ·have ha':td.ty.isAgg=false:=by grind
  have h1:td.ty.size=1:=by cases h:td.ty<;>rw[h] at ha'<;>simp[Ty.isAgg] at ha'<;>rfl
  rw[h1] at h hl
  have hlt:off<cs.size:=by omega
  refine⟨cs[off],by simp[part,T.isAgg ht,ha',hlt],Or.inr ⟨ha',?_⟩⟩
  have:(cs.toList.drop off).take 1= [cs[off]]:=by
   grind [ma]
  rw[this] at h;exact h
def EqAt(P:Program)(E:Env)(w:World)(d:Nat)(t:TypeId)(ty:Ty):Prop:=
 ∀(x y:ty.den)(vx vy:Value),bZ E w (.val ty x) vx→bZ E w (.val ty y) vy→(Op.equalIn d t vx vy).run P w= .ok (bl ty x y) w
theorem ug{d:Nat}{k:TypeId→Ty→Bool}(hk:∀t td,G.at t=some td→k t td.ty=true→EqAt P E w d t td.ty){cx cy:Array Value}:
 ∀(fs:List Field)(ty:Ty)(off:Nat)(x y:ty.den),cc G fs off ty=true→JY k fs ty=true→off+ty.size≤cx.size→off+ty.size≤cy.size→
  Rel w E.S ty ((cx.toList.drop off).take ty.size) x→Rel w E.S ty ((cy.toList.drop off).take ty.size) y→(Op.eqFields d cx cy fs).run P w= .ok (bl ty x y) w
 |
  [],ty,off,x,y,hf,he,_,_,_,_=>by
  cases ty<;>simp[cc] at hf
  trivial
 |
  f::fs,ty,off,x,y,hf,he,hlx,hly,hx,hy=>by
  cases ty with
  |
   pair a b=>
   simp only[cc,bj] at hf
   obtain⟨⟨⟨h1,h2⟩,h3⟩,h4⟩:=hf
   simp only[JY,bj,gZ,beq_eq_false_iff_ne] at he
   obtain⟨⟨e1,e2⟩,e3⟩:=he
   split at h1
   ·rename_i td htd
    have:=Ty.aB h1;subst this
    have h2:=bM h2
    simp only[Ty.size] at hlx hly hx hy
    obtain⟨v1,v2,ex,hx1,hx2⟩:=hx
    obtain⟨u1,u2,ey,hy1,hy2⟩:=hy
    have lx1:=Rel.len hx1
    have ly1:=Rel.len hy1
    have cut:∀(c:Array Value)(v1 v2:List Value),(c.toList.drop off).take (td.ty.size+b.size)=v1++v2→v1.length=td.ty.size→
     (c.toList.drop off).take td.ty.size=v1∧(c.toList.drop (off+td.ty.size)).take b.size=v2:=by
     intro c v1 v2 e hl
     constructor
     ·have:((c.toList.drop off).take (td.ty.size+b.size)).take td.ty.size=v1:=by grind
      grind
     ·have:((c.toList.drop off).take (td.ty.size+b.size)).drop td.ty.size=v2:=by grind
      rwa [mM,mc,qv] at this
    obtain⟨cx1,cx2⟩:=cut cx v1 v2 ex lx1
    obtain⟨cy1,cy2⟩:=cut cy u1 u2 ey ly1
    rw[←cx1] at hx1;rw[←cx2] at hx2;rw[←cy1] at hy1;rw[←cy2] at hy2
    obtain⟨vx,p1,p2⟩:=ov T htd hx1 (by omega)
    obtain⟨vy,p3,p4⟩:=ov T htd hy1 (by omega)
    have heq:=hk f.type td htd e2 x.1 y.1 vx vy p2 p4
    have hrest:=ug hk fs b (off+td.ty.size) x.2 y.2 h4 e3 (by omega) (by omega) hx2 hy2
    simp only[Op.eqFields,Sem.run_ite,aA e1,Sem.run_bind,h2,p1,p3,Result.andThen_ok,heq]
    cases hq:bl td.ty x.1 y.1 with
    |false=>simp[bl,hq]
    |true=>simp_all[bl]
   grind
  |_=>trivial
theorem xu{d:Nat}{e:TypeId}{te:TD}(hte:G.at e=some te)(hk:EqAt P E w d e te.ty){cx cy:Array Value}:
 ∀(n i:Nat)(xs ys:List te.ty.den),xs.length=n→ys.length=n→(i+n)*te.ty.size≤cx.size→(i+n)*te.ty.size≤cy.size→
  bk (Rel w E.S te.ty) ((cx.toList.drop (i*te.ty.size)).take (n*te.ty.size)) xs→bk (Rel w E.S te.ty) ((cy.toList.drop (i*te.ty.size)).take (n*te.ty.size)) ys→
  (Op.eqItems d e te.ty.size cx cy (List.range' i n)).run P w= .ok (Cr (bl te.ty) xs ys) w
 |
  0,i,xs,ys,hx,hy,_,_,_,_=>by
  simp_all[Op.eqItems,Cr]
 |
  n+1,i,x::xs,y::ys,hx,hy,hlx,hly,⟨v1,v2,ex,hx1,hx2⟩,⟨u1,u2,ey,hy1,hy2⟩=>by
  have lx1:=Rel.len hx1
  have ly1:=Rel.len hy1
  have hb:(i+(n+1))*te.ty.size=(i+1+n)*te.ty.size:=by grind
  have hb2:(i+1+n)*te.ty.size=i*te.ty.size+te.ty.size+n*te.ty.size:=by grind
  have cut:∀(c:Array Value)(v1 v2:List Value),(c.toList.drop (i*te.ty.size)).take ((n+1)*te.ty.size)=v1++v2→v1.length=te.ty.size→
   (c.toList.drop (i*te.ty.size)).take te.ty.size=v1∧(c.toList.drop ((i+1)*te.ty.size)).take (n*te.ty.size)=v2:=by
   intro c v1 v2 e hl
   have hn:(n+1)*te.ty.size=te.ty.size+n*te.ty.size:=by grind
   rw[hn] at e
   constructor
   ·have:((c.toList.drop (i*te.ty.size)).take (te.ty.size+n*te.ty.size)).take te.ty.size=v1:=by grind
    grind
   ·have:((c.toList.drop (i*te.ty.size)).take (te.ty.size+n*te.ty.size)).drop te.ty.size=v2:=by grind
    rwa [mM,mc,qv,show i*te.ty.size+te.ty.size=(i+1)*te.ty.size from by grind] at this
  obtain⟨cx1,cx2⟩:=cut cx v1 v2 ex lx1
  obtain⟨cy1,cy2⟩:=cut cy u1 u2 ey ly1
  rw[←cx1] at hx1;rw[←cx2] at hx2;rw[←cy1] at hy1;rw[←cy2] at hy2
  obtain⟨vx,p1,p2⟩:=ov T hte hx1 (by omega)
  obtain⟨vy,p3,p4⟩:=ov T hte hy1 (by omega)
  have heq:=hk x y vx vy p2 p4
  have hrest:=xu hte hk n (i+1) xs ys (by grind) (by grind) (by omega) (by omega) hx2 hy2
  rw[List.range'_succ]
  simp only[Op.eqItems,Sem.run_bind,p1,p3,Result.andThen_ok,heq]
  cases hq:bl te.ty x y with
  |false=>simp[Cr,hq]
  |true=>simp_all[Cr]
 |n+1,i,[],_,hx,_,_,_,_,_=>by grind
 |n+1,i,_::_,[],_,hy,_,_,_,_=>by grind
theorem vj(d:Nat):∀(n:Nat)(t:TypeId)(td:TD),G.at t=some td→iM P G n t td.ty=true→EqAt P E w (d+n) t td.ty
 |0,t,td,ht,h=>by simp[iM] at h
 |
  n+1,t,td,ht,h=>by
  have ih:=fun t td ht h=>vj d n t td ht h
  unfold iM at h
  rw[ht] at h
  simp only[bj] at h
  obtain⟨_,h⟩:=h
  intro x y vx vy hx hy
  rw[show d+(n+1)=(d+n)+1 from rfl]
  obtain⟨ty,te,te2⟩:=td
  simp only at h x y hx hy
  cases ty with
  |
   int k=>
   have hu:=T.intOf ht rfl
   obtain⟨rfl,_⟩:=RV.eG (RV.eS hx)
   obtain⟨rfl,_⟩:=RV.eG (RV.eS hy)
   rw[run_equalIn_int w (d+n) t k k _ _ hu]
   simp[bl];rfl
  |
   bool=>
   have hu:P.underlying t=some .bool:=by
    obtain⟨ii,dd,_,h1,_,h2,_⟩:=T.info ht
    have amH:=dm h2
    rw[h1]
    cases hd:dd with
    |bool=>rfl
    |struct fs=>subst hd;simp[dr,Ty.isAgg] at amH
    |array n e=>subst hd;simp[dr,Ty.isAgg] at amH
    |slice e=>subst hd;simp[ck,Ty.same] at h2
    |map k e=>subst hd;simp[ck,Ty.same] at h2
    |_=>subst hd;simp[ck,Ty.same] at h2
   have:=RV.dY (RV.eS hx);subst this
   have:=RV.dY (RV.eS hy);subst this
   rw[run_equalIn_bool' w (d+n) t _ _ hu]
   simp[bl];rfl
  |
   str=>
   have hu:=T.strOf ht rfl
   obtain⟨rfl,_⟩:=RV.ju (RV.eS hx)
   obtain⟨rfl,_⟩:=RV.ju (RV.eS hy)
   rw[run_equalIn_string w (d+n) t _ _ hu]
   have:∀(a b:List UInt8),(a==b)=decide (a=b):=fun a b=>by
    by_cases h:a=b
    ·subst h;simp
    ·simp[h]
   simp only[ByteArray.toList_mk,bl]
   exact congrArg (fun b=>Result.ok b w) (this x y)
  |
   arr m u=>
   obtain⟨tde,h1,h2,h3⟩:=T.wv ht rfl
   simp only at h h1 h2 h3
   subst h3
   have hk:=ih te tde h2 h
   obtain⟨ie,_,hi,_,hsz,_⟩:=T.info h2
   rcases hx with⟨_,cx,rfl,hx1,hx2⟩|⟨hx,_⟩
   ·rcases hy with⟨_,cy,rfl,hy1,hy2⟩|⟨hy,_⟩
    ·rw[run_equalIn_array w (d+n) cx cy h1 hi]
     have hcell:P.cellsOf te=tde.ty.size:=by simp[Program.cellsOf,hi,hsz]
     rw[hcell,List.range_eq_range']
     have lx:=bk.len (n:=tde.ty.size) (fun _ _ h=>Rel.len h) hx2
     have ly:=bk.len (n:=tde.ty.size) (fun _ _ h=>Rel.len h) hy2
     rw[pv] at lx ly
     rw[hx1] at lx;rw[hy1] at ly
     refine xu T h2 hk m 0 x y hx1 hy1 (by rw[eN,lx];exact dP _) (by rw[eN,ly];exact dP _) ?_ ?_
     ·simp only[Nat.zero_mul,iV];rw[gm (by simp[lx])];exact hx2
     ·simp only[Nat.zero_mul,iV];rw[gm (by simp[ly])];exact hy2
    ·simp[AV.isAgg,Ty.isAgg] at hy
   ·simp[AV.isAgg,Ty.isAgg] at hx
  |
   pair a b=>
   obtain⟨fs,h1,h2⟩:=T.structOf ht rfl
   simp only[bj,h1] at h
   obtain⟨e1,e2⟩:=h
   have hfo:P.fieldsOf t=fs:=by simp[Program.fieldsOf,h1]
   rcases hx with⟨_,cx,rfl,hx⟩|⟨hx,_⟩
   ·rcases hy with⟨_,cy,rfl,hy⟩|⟨hy,_⟩
    ·rw[run_equalIn_struct w (d+n) t cx cy (by rw[hfo];exact h1) (by simpa using e1),hfo]
     have lx:=Rel.len hx
     have ly:=Rel.len hy
     rw[pv] at lx ly
     refine ug T ih fs.toList (.pair a b) 0 x y h2 e2 (by omega) (by omega) ?_ ?_
     ·rw[iV,gm (by simp[lx])];exact hx
     ·rw[iV,gm (by simp[ly])];exact hy
    ·simp[AV.isAgg,Ty.isAgg] at hy
   ·simp[AV.isAgg,Ty.isAgg] at hx
  |_=>simp at h
end
def UY(P:Program)(G:bN)(op:BinOp)(t:TypeId):AV→AV→Option (AV×List VC)
 |
  .val u x,.val v y=>match G.at t with
  |
   some td=>if h:Ty.same u td.ty&&Ty.same v td.ty&&td.ty.isAgg then(match op with
   | .eql=>some (.val .bool (bl td.ty (Ty.aB (by simp at h;exact h.1.1)▸x) (Ty.aB (by simp at h;exact h.1.2)▸y)),[vc (iM P G 40 t td.ty=true),vc (P.eqGuardType P.depth t=false)])
   | .neq=>some (.val .bool (!bl td.ty (Ty.aB (by simp at h;exact h.1.1)▸x) (Ty.aB (by simp at h;exact h.1.2)▸y)),[vc (iM P G 40 t td.ty=true),vc (P.eqGuardType P.depth t=false)])
   |_=>none) else none
  |none=>none
 |_,_=>none
variable{vy:Value}{ox:Operand}{oy:Operand}
theorem P4{G:bN}(T:bA P G){op:BinOp}{t:TypeId}{x y:AV}{r:AV}{vc:List VC}(hx:RV E w x vx)(hy:RV E w y vy)(h:UY P G op t x y=some (r,vc))(hvc:dD vc):
 (eqGuard op t ox oy vx vy).run P w= .ok () w∧∃v,(binOp op t vx vy).run P w= .ok v w∧RV E w r v:=by
 unfold UY at h
 split at h
 ·rename_i u x v y
  split at h
  ·rename_i td ht
   split at h
   ·rename_i hc
    simp only[bj] at hc
    have e1:=Ty.aB hc.1.1
    have e2:=Ty.aB hc.1.2
    subst e1;subst e2
    have hx0:bZ E w (.val td.ty x) vx:=RV.jq rfl hx
    have hy0:bZ E w (.val td.ty y) vy:=RV.jq rfl hy
    have main:iM P G 40 t td.ty=true→P.eqGuardType P.depth t=false→∃cx cy,vx= .agg cx∧vy= .agg cy∧(Op.equalIn 10000 t vx vy).run P w= .ok (bl td.ty x y) w:=by
     intro q1 _
     have:=vj T (E:=E) (w:=w) 9960 40 t td ht q1 x y vx vy hx0 hy0
     rcases hx0 with⟨_,cx,ex,_⟩|⟨hq,_⟩
     ·rcases hy0 with⟨_,cy,ey,_⟩|⟨hq,_⟩
      ·grind
      ·simp[AV.isAgg,hc.2] at hq
     ·simp[AV.isAgg,hc.2] at hq
    split at h
    ·cases h
     obtain⟨q1,q2,_⟩:=hvc
     obtain⟨cx,cy,rfl,rfl,q3⟩:=main q1 q2
     simp_all[run_eqGuard_agg,run_eql_struct,RV.bool]
    ·cases h
     obtain⟨q1,q2,_⟩:=hvc
     obtain⟨cx,cy,rfl,rfl,q3⟩:=main q1 q2
     simp_all[run_eqGuard_agg,run_neq_struct,RV.bool]
    grind
   grind
  grind
 grind
def bY{α:Type}(kt:Ty)(k:kt.den):List (kt.den×α)→Nat→Option (Nat×α)
 |[],_=>none
 |e::es,i=>if bl kt k e.1 then some (i,e.2) else bY kt k es (i+1)
def bT{α:Type}(kt:Ty)(k:kt.den):List (kt.den×α)→Bool
 |[]=>false
 |e::es=>bl kt k e.1||bT kt k es
def aP(kt vt:Ty)(k:kt.den):List (kt.den×vt.den)→vt.den
 |[]=>vt.aD
 |e::es=>if bl kt k e.1 then e.2 else aP kt vt k es
def aZ{α:Type}(kt:Ty)(k:kt.den)(v:α):List (kt.den×α)→List (kt.den×α)
 |[]=>[(k,v)]
 |e::es=>if bl kt k e.1 then(k,v)::es else e::aZ kt k v es
def iZ{α:Type}(kt:Ty)(k:kt.den):List (kt.den×α)→List (kt.den×α)
 |[]=>[]
 |e::es=>if bl kt k e.1 then es else e::iZ kt k es
def Ty.keyed:Ty→Bool
 | .int _| .bool| .str| .unit=>true
 | .arr _ t=>t.keyed
 | .pair a b=>a.keyed&&b.keyed
 |_=>false
theorem M9{f:α→α→Bool}(h:∀x y,f x y=true↔x=y):∀(xs ys:List α),Cr f xs ys=true↔xs=ys
 |[],[]=>by simp[Cr]
 |[],_::_=>by simp[Cr]
 |_::_,[]=>by simp[Cr]
 |x::xs,y::ys=>by simp[Cr,h,M9 h xs ys]
theorem bO:∀{t:Ty},t.keyed=true→∀(x y:t.den),bl t x y=true↔x=y
 | .int _,_,x,y=>by simp[bl]
 | .bool,_,x,y=>by simp[bl]
 | .str,_,x,y=>by simp[bl]
 | .arr _ t,h,x,y=>M9 (fun a b=>bO (t:=t) h a b) x y
 |
  .pair a b,h,x,y=>by
  simp only[Ty.keyed,bj] at h
  simp only[bl,bj,bO h.1,bO h.2]
  grind
 | .unit,_,x,y=>by simp[bl]
 | .slice _ _,h,_,_=>by trivial
 | .aT _,h,_,_=>by trivial
 | .fns _,h,_,_=>by trivial
theorem bk.fn{r:List Value→α→Prop}{n:Nat}(hn:∀vs x,r vs x→vs.length=n)(h:∀vs us x,r vs x→r us x→vs=us):∀{xs:List α}{vs us:List Value},bk r vs xs→bk r us xs→vs=us
 |[],vs,us,h1,h2=>by simp[bk] at h1 h2;grind
 |x::xs,_,_,⟨a1,a2,e1,r1,r2⟩,⟨b1,b2,e2,s1,s2⟩=>by rw[e1,e2,h _ _ x r1 s1,bk.fn hn h r2 s2]
theorem Rel.fn:∀{t:Ty},t.keyed=true→∀(vs us:List Value)(x:t.den),Rel w S t vs x→Rel w S t us x→vs=us
 | .int _,_,vs,us,x,h1,h2=>by rw[h1.1,h2.1]
 | .bool,_,vs,us,x,h1,h2=>by simp only[Rel] at h1 h2;grind
 | .str,_,vs,us,x,h1,h2=>by rw[h1.1,h2.1]
 | .arr _ t,h,vs,us,x,h1,h2=>bk.fn (fun _ _=>Rel.len) (fun a b y=>Rel.fn (t:=t) h a b y) h1.2 h2.2
 |
  .pair a b,h,vs,us,x,⟨a1,a2,e1,r1,r2⟩,⟨b1,b2,e2,s1,s2⟩=>by
  simp only[Ty.keyed,bj] at h
  rw[e1,e2,Rel.fn h.1 _ _ _ r1 s1,Rel.fn h.2 _ _ _ r2 s2]
 | .unit,_,vs,us,x,h1,h2=>by simp only[Rel] at h1 h2;grind
 | .slice _ _,h,_,_,_,_,_=>by trivial
 | .aT _,h,_,_,_,_,_=>by trivial
 | .fns _,h,_,_,_,_,_=>by trivial
def Value.bare:Value→Bool
 | .int _ _| .bool _| .string _=>true
 |_=>false
theorem Rel.bare:∀{t:Ty},t.keyed=true→∀(vs:List Value)(x:t.den),Rel w S t vs x→∀v∈vs,Value.bare v=true
 | .int _,_,vs,x,h,v,hv=>by rw[h.1] at hv;simp at hv;subst hv;rfl
 | .bool,_,vs,x,h,v,hv=>by simp only[Rel] at h;rw[h] at hv;simp at hv;subst hv;rfl
 | .str,_,vs,x,h,v,hv=>by rw[h.1] at hv;simp at hv;subst hv;rfl
 |
  .arr _ t,h,vs,x,h1,v,hv=>by
  have key:∀(xs:List t.den)(vs:List Value),bk (Rel w S t) vs xs→∀v∈vs,Value.bare v=true:=by
   intro xs
   induction xs with
   |nil=>intro vs h v hv;simp[bk] at h;subst h;cases hv
   |
    cons y ys ih=>
    rintro vs ⟨a1,a2,e1,r1,r2⟩ v hv
    rw[e1] at hv
    rcases List.mem_append.1 hv with hv|hv
    ·exact Rel.bare (t:=t) h _ _ r1 v hv
    ·exact ih _ r2 v hv
  exact key x vs h1.2 v hv
 |
  .pair a b,h,vs,x,⟨a1,a2,e1,r1,r2⟩,v,hv=>by
  simp only[Ty.keyed,bj] at h
  rw[e1] at hv
  rcases List.mem_append.1 hv with hv|hv
  ·exact Rel.bare h.1 _ _ r1 v hv
  ·exact Rel.bare h.2 _ _ r2 v hv
 | .unit,_,vs,x,h,v,hv=>by grind [Rel]
 | .slice _ _,h,_,_,_,_,_=>by trivial
 | .aT _,h,_,_,_,_,_=>by trivial
 | .fns _,h,_,_,_,_,_=>by trivial
theorem pa{n:Nat}{v:Value}(h:Value.bare v=true):Instr.sameBits n v v=true:=by
 cases v with
 |int k m=>cases n<;>simp[Instr.sameBits]
 |bool b=>cases n<;>simp[Instr.sameBits]
 |
  string s=>
  have:(s==s)=true:=by
   have:(s.data==s.data)=true:=by simp
   trivial
  grind [Instr.sameBits]
 |_=>trivial
theorem bZ.fn{t:Ty}(hk:t.keyed=true){x:t.den}{v u:Value}(hv:bZ E w (.val t x) v)(hu:bZ E w (.val t x) u):v=u∧Instr.sameBits 10000 v v=true:=by
 rcases hv with⟨h1,cs,e,h2⟩|⟨h1,h2⟩
 ·rcases hu with⟨k1,ds,e',k2⟩|⟨k1,_⟩
  ·have:=Rel.fn hk _ _ _ h2 k2
   have e2:cs=ds:=mb this
   subst e;subst e';subst e2
   refine⟨rfl,?_⟩
   show Instr.sameBits (9999+1) _ _=true
   simp only[Instr.sameBits,beq_self_eq_true,Bool.true_and,j6]
   intro p hp
   have hb:=Rel.bare hk _ _ h2
   have:p.1=p.2∧p.1∈cs.toList:=by
    have key:∀(l:List Value)(p:Value×Value),p∈l.zip l→p.1=p.2∧p.1∈l:=by
     intro l
     induction l with
     |nil=>intro p hp;cases hp
     |
      cons x l ih=>
      intro p hp
      rcases List.mem_cons.1 hp with hp|hp
      ·subst hp;simp
      ·exact⟨(ih p hp).1,dj _ (ih p hp).2⟩
    exact key _ p hp
   obtain⟨p1,p2⟩:=p
   simp only at this ⊢
   rw[←this.1]
   exact pa (hb p1 this.2)
  ·rw[h1] at k1;cases k1
 ·rcases hu with⟨k1,_⟩|⟨k1,k2⟩
  ·rw[h1] at k1;cases k1
  ·have:=Rel.fn hk _ _ _ h2 k2
   simp at this
   exact⟨this,pa (Rel.bare hk _ _ h2 v (by simp))⟩
section
variable{P:Program} {G:bN} (T:bA P G) {E:Env} {w:World}
include T
theorem fR(em:Bool)(d:Nat):∀(n:Nat)(t:TypeId)(td:TD),G.at t=some td→iM P G n t td.ty=true→∀(x:td.ty.den)(v:Value),bZ E w (.val td.ty x) v→(Instr.checkKey em (d+n) t v).run P w= .ok () w
 |0,t,td,ht,h=>by trivial
 |
  n+1,t,td,ht,h=>by
  have ih:=fun t td ht h=>fR em d n t td ht h
  unfold iM at h
  rw[ht] at h
  simp only[bj] at h
  obtain⟨_,h⟩:=h
  intro x v hx
  rw[show d+(n+1)=(d+n)+1 from rfl,Instr.checkKey]
  obtain⟨ii,dd,_,hu,_,hdo,_⟩:=T.info ht
  obtain⟨ty,te,te2⟩:=td
  simp only at h x hx hdo
  cases ty with
  |
   int k=>
   have hu:=T.intOf ht rfl
   simp[underlying,hu]
  |
   bool=>
   cases dd<;>simp[ck,Ty.same] at hdo
   ·simp[underlying,hu]
   grind [cc]
  |
   str=>
   have hu:=T.strOf ht rfl
   simp[underlying,hu]
  |
   arr m u=>
   obtain⟨tde,h1,h2,h3⟩:=T.wv ht rfl
   simp only at h h1 h2 h3
   subst h3
   obtain⟨ie,_,hi,_,hsz,_⟩:=T.info h2
   rcases hx with⟨_,cx,rfl,hx1,hx2⟩|⟨hx,_⟩
   ·simp only[Sem.run_bind,run_underlying h1,Result.andThen_ok,Std.Legacy.Range.forIn_eq_forIn_range',Std.Legacy.Range.size,Nat.sub_zero,Nat.add_one_sub_one,Nat.div_one]
    have lx:=bk.len (n:=tde.ty.size) (fun _ _ h=>Rel.len h) hx2
    rw[pv,hx1] at lx
    have each:∀j,j<m→∃a,(part te cx (j*tde.ty.size)).run P w= .ok a w∧(Instr.checkKey em (d+n) te a).run P w= .ok () w:=by
     intro j hj
     have hr:=bk.get (fun _ _=>Rel.len) tde.ty.aD j hx2 (by omega)
     have hb:(j+1)*tde.ty.size≤m*tde.ty.size:=ji _ hj
     rw[gX,Nat.one_mul] at hb
     grind [ov]
    have key:∀(is:List Nat),(∀j∈is,j<m)→(forIn is PUnit.unit fun i _=>do
     Instr.checkKey em (d+n) te (←part te cx (i*(←sizeOf te)))
     pure (ForInStep.yield PUnit.unit):Sem PUnit).run P w= .ok () w:=by
     intro is
     induction is with
     |nil=>simp_all
     |
      cons j is ihl=>
      intro hj
      obtain⟨a,p1,p2⟩:=each j (hj j (by simp))
      simp only[List.forIn_cons,Sem.run_bind,T.size h2,Result.andThen_ok,p1,p2,Sem.run_pure]
      grind
    simp_all
   trivial
  |
   pair a b=>
   obtain⟨fs,h1,h2⟩:=T.structOf ht rfl
   simp only[bj,h1] at h
   obtain⟨e1,e2⟩:=h
   rcases hx with⟨_,cx,rfl,hx⟩|⟨hx,_⟩
   ·simp only[Sem.run_bind,run_underlying h1,Result.andThen_ok]
    rw[←Array.forIn_toList]
    have lx:=Rel.len hx
    rw[pv] at lx
    have key:∀(fs:List Field)(ty:Ty)(off:Nat)(x:ty.den),cc G fs off ty=true→JY (iM P G n) fs ty=true→off+ty.size≤cx.size→Rel w E.S ty ((cx.toList.drop off).take ty.size) x→
     (forIn fs PUnit.unit fun f _=>if f.name≠ "_" then(do
      let v ←part f.type cx f.offset
      Instr.checkKey em (d+n) f.type v
      pure (ForInStep.yield PUnit.unit)) else pure (ForInStep.yield PUnit.unit):Sem PUnit).run P w= .ok () w:=by
     intro fs
     induction fs with
     |nil=>simp_all
     |
      cons f fs ihl=>
      intro ty off x hf he hlx hx
      cases ty with
      |
       pair a b=>
       simp only[cc,bj] at hf
       obtain⟨⟨⟨g1,g2⟩,g3⟩,g4⟩:=hf
       simp only[JY,bj,gZ,beq_eq_false_iff_ne] at he
       obtain⟨⟨q1,q2⟩,q3⟩:=he
       split at g1
       ·rename_i td htd
        have:=Ty.aB g1;subst this
        have g2:=bM g2
        simp only[Ty.size] at hlx hx
        obtain⟨v1,v2,ex,hx1,hx2⟩:=hx
        have lx1:=Rel.len hx1
        have c1:(cx.toList.drop off).take td.ty.size=v1:=by
         have:((cx.toList.drop off).take (td.ty.size+b.size)).take td.ty.size=v1:=by grind
         grind
        have c2:(cx.toList.drop (off+td.ty.size)).take b.size=v2:=by
         have:((cx.toList.drop off).take (td.ty.size+b.size)).drop td.ty.size=v2:=by grind
         rwa [mM,mc,qv] at this
        rw[←c1] at hx1;rw[←c2] at hx2
        obtain⟨a,p1,p2⟩:=ov T htd hx1 (by omega)
        have p3:=ih f.type td htd q2 x.1 a p2
        have hrest:=ihl b (off+td.ty.size) x.2 g4 q3 (by omega) hx2
        simp_all
       grind
      |_=>trivial
    rw[key fs.toList (.pair a b) 0 x h2 e2 (by omega) (by rw[iV,gm (by simp[lx])];exact hx)];rfl
   trivial
  |_=>simp at h
end
section
variable{P:Program} {G:bN} (T:bA P G) {E:Env} {w:World}
def Na(E:Env)(w:World)(vt:Ty):Option (Nat×vt.den)→Option (Nat×Value)→Prop
 |none,none=>True
 |some x,some y=>x.1=y.1∧bZ E w (.val vt x.2) y.2
 |_,_=>False
include T in
theorem pd{t:TypeId}{td:TD}(ht:G.at t=some td)(he:iM P G 40 t td.ty=true){vt:Ty}{k:td.ty.den}{v:Value}(hv:bZ E w (.val td.ty k) v):∀{l:List MapEntry}{es:List (td.ty.den×vt.den)}(i:Nat),RM E w td.ty vt l es→
 ∃r,(Instr.findAsking t v l i).run P w= .ok r w∧Na E w vt (bY td.ty k es i) r
 |[],[],i,_=>⟨none,by trivial,trivial⟩
 |[],_::_,_,h=>h.elim
 |_::_,[],_,h=>h.elim
 |
  e::l,x::es,i,⟨h1,h2,h3⟩=>by
  have hq:(Op.equal t v e.key).run P w= .ok (bl td.ty k x.1) w:=vj T (E:=E) (w:=w) (Op.maxDepth -40) 40 t td ht he k x.1 v e.key hv h1
  cases hb:bl td.ty k x.1 with
  |true=>exact⟨some (i,e.val),by simp[Instr.findAsking,hq,hb],by simp only[bY,hb,cj];trivial⟩
  |
   false=>
   simp_all[pd,Instr.findAsking,bY]
theorem lR{d:TypeDesc}{kt:Ty}{x y:kt.den}{v u:Value}{b:Bool}(hv:bZ E w (.val kt x) v)(hu:bZ E w (.val kt y) u)(h:Instr.sameNow d v u=some b):b=bl kt x y:=by
 cases kt with
 |
  int k=>
  obtain⟨rfl,_⟩:=RV.eG (RV.eS hv)
  obtain⟨rfl,_⟩:=RV.eG (RV.eS hu)
  cases d<;>simp[Instr.sameNow] at h
  subst h;trivial
 |
  bool=>
  have:=RV.dY (RV.eS hv);subst this
  have:=RV.dY (RV.eS hu);subst this
  cases d<;>simp[Instr.sameNow] at h
  subst h;trivial
 |
  str=>
  obtain⟨rfl,_⟩:=RV.ju (RV.eS hv)
  obtain⟨rfl,_⟩:=RV.ju (RV.eS hu)
  cases d<;>simp[Instr.sameNow] at h
  subst h
  have:∀(a b:List UInt8),((⟨a.toArray⟩:ByteArray)==⟨b.toArray⟩)=decide (a=b):=fun a b=>by
   have e1:((⟨a.toArray⟩:ByteArray)==⟨b.toArray⟩)=(a.toArray==b.toArray):=rfl
   grind
  simp only[bl]
  grind
 |
  _=>
  rcases hv with⟨h1,cs,e,_⟩|⟨h1,h2⟩
  ·subst e;cases d<;>simp[Instr.sameNow] at h
  ·first
    |(simp[AV.isAgg,Ty.isAgg] at h1;done)
    |(simp only[RC,Rel] at h2;obtain⟨a,c,e,_⟩:=h2;simp at e;subst e;cases d<;>simp[Instr.sameNow] at h;done)
    |(simp only[RC,Rel] at h2;obtain⟨a,e,_⟩:=h2;simp at e;subst e;cases d<;>simp[Instr.sameNow] at h;done)
    |exact h2.elim
theorem xw{d:TypeDesc}{kt vt:Ty}{k:kt.den}{v:Value}(hv:bZ E w (.val kt k) v):∀{l:List MapEntry}{es:List (kt.den×vt.den)}(i:Nat){r:Option (Nat×Value)},RM E w kt vt l es→Instr.findNow d v l i=some r→Na E w vt (bY kt k es i) r
 |[],[],i,r,_,h=>by simp[Instr.findNow] at h;subst h;trivial
 |[],_::_,_,_,h,_=>h.elim
 |_::_,[],_,_,h,_=>h.elim
 |
  e::l,x::es,i,r,⟨h1,h2,h3⟩,h=>by
  simp only[Instr.findNow] at h
  split at h
  ·rename_i hs
   have:=lR hv h1 hs
   cases h
   simp only[bY,←this,cj];exact⟨rfl,h2⟩
  ·rename_i hs
   have:=lR hv h1 hs
   simp only[bY,←this,eM,dB]
   exact xw hv (i+1) h3 h
  ·cases h
include T in
theorem lT{t:TypeId}{td:TD}(ht:G.at t=some td)(he:iM P G 40 t td.ty=true){vt:Ty}{k:td.ty.den}{v:Value}(hv:bZ E w (.val td.ty k) v){l:List MapEntry}{es:List (td.ty.den×vt.den)}(h:RM E w td.ty vt l es):
 ∃r,(Instr.findKey t v l).run P w= .ok r w∧Na E w vt (bY td.ty k es 0) r:=by
 obtain⟨ii,dd,_,hu,_⟩:=T.info ht
 unfold Instr.findKey
 simp only[Sem.run_bind,run_underlying hu,Result.andThen_ok]
 split
 ·rename_i r hr
  exact⟨r,rfl,xw hv 0 h hr⟩
 ·exact pd T ht he hv 0 h
end
variable{kt:Ty}{vt:Ty}
theorem sV{k:kt.den}:∀{es:List (kt.den×vt.den)}{i:Nat},(bY kt k es i).map (·.2)=if bT kt k es then some (aP kt vt k es) else none
 |[],_=>rfl
 |
  e::es,i=>by
  simp only[bY,bT,aP]
  by_cases hb:bl kt k e.1=true
  ·simp[hb]
  simp_all[sV]
theorem xx{k:kt.den}:∀{es:List (kt.den×α)}{i j:Nat}{y:α},bY kt k es i=some (j,y)→i≤j
 |[],_,_,_,h=>by cases h
 |
  e::es,i,j,y,h=>by
  simp only[bY] at h
  split at h
  ·grind
  ·exact Nat.le_of_succ_le (xx h)
theorem RM.P5{k:kt.den}{y:vt.den}{v u:Value}(hk:kt.keyed=true)(hv:bZ E w (.val kt k) v)(hu:bZ E w (.val vt y) u):∀{l:List MapEntry}{es:List (kt.den×vt.den)}{i j:Nat}{z:vt.den},
 RM E w kt vt l es→bY kt k es i=some (i+j,z)→RM E w kt vt (l.modify j fun e=>{e with key:=v,val:=u}) (aZ kt k y es)∧(∃e,l[j]? =some e∧bZ E w (.val kt k) e.key)
 |[],[],_,_,_,_,h=>by cases h
 |[],_::_,_,_,_,h,_=>h.elim
 |_::_,[],_,_,_,h,_=>h.elim
 |
  e::l,x::es,i,j,z,⟨h1,h2,h3⟩,h=>by
  simp only[bY] at h
  split at h
  ·rename_i hb
   have hj:j=0:=by grind
   subst hj
   have hx:=(bO hk _ _).1 hb
   refine⟨?_,e,rfl,by grind⟩
   simp only[aZ,hb,cj]
   trivial
  ·rename_i hb
   have:=xx h
   obtain⟨j,rfl⟩:∃m,j=m+1:=⟨j -1,by omega⟩
   rw[show i+(j+1)=(i+1)+j from by omega] at h
   obtain⟨r1,r2⟩:=RM.P5 hk hv hu h3 h
   simp only[aZ,hb]
   trivial
theorem RM.push{k:kt.den}{y:vt.den}{v u:Value}{n:Nat}(hv:bZ E w (.val kt k) v)(hu:bZ E w (.val vt y) u):∀{l:List MapEntry}{es:List (kt.den×vt.den)}{i:Nat},
 RM E w kt vt l es→bY kt k es i=none→RM E w kt vt (l++[{key:=v,val:=u,born:=n}]) (aZ kt k y es)
 |[],[],_,_,_=>⟨hv,hu,trivial⟩
 |[],_::_,_,h,_=>h.elim
 |_::_,[],_,h,_=>h.elim
 |
  e::l,x::es,i,⟨h1,h2,h3⟩,h=>by
  simp only[bY] at h
  split at h
  ·cases h
  ·rename_i hb
   simp only[aZ,hb]
   exact⟨h1,h2,RM.push hv hu h3 h⟩
theorem Ec{k x:kt.den}{y:α}:∀{es:List (kt.den×α)},x∈(aZ kt k y es).map (·.1)→x=k∨x∈es.map (·.1)
 |[],h=>by simp[aZ] at h;grind
 |
  e::es,h=>by
  simp only[aZ] at h
  split at h
  ·simp only[dA,fg] at h ⊢
   rcases h with h|h
   ·exact Or.inl h
   ·exact Or.inr (Or.inr h)
  ·simp only[dA,fg] at h ⊢
   rcases h with h|h
   ·exact Or.inr (Or.inl h)
   ·exact(Ec h).imp id Or.inr
theorem cU(hk:kt.keyed=true){k:kt.den}{y:α}:∀{es:List (kt.den×α)},(es.map (·.1)).Nodup→((aZ kt k y es).map (·.1)).Nodup
 |[],_=>by simp[aZ]
 |
  e::es,h=>by
  simp only[dA,kM] at h
  simp only[aZ]
  split
  ·rename_i hb
   have:=(bO hk _ _).1 hb
   simp only[dA,kM]
   exact⟨by rw[this];exact h.1,h.2⟩
  ·rename_i hb
   simp only[dA,kM]
   refine⟨fun hm=>?_,cU hk h.2⟩
   rcases Ec hm with e1|e1
   ·exact hb ((bO hk _ _).2 e1.symm)
   ·exact h.1 e1
theorem dy{α:Type}{kt:Ty}{k:kt.den}{y:α}:∀{es:List (kt.den×α)},(aZ kt k y es).length≤es.length+1
 |[]=>by simp[aZ]
 |
  e::es=>by
  simp only[aZ]
  split
  ·simp
  ·have:=dy (k:=k) (y:=y) (es:=es);simp;omega
def jT(G:bN)(t:TypeId):Option (TypeId×TypeId×Ty×Ty):=
 match G.at t with
 |
  some td=>match G.at td.e,G.at td.e2 with
  |some k,some v=>if td.ty.mS&&k.ty.keyed&&v.ty.pure then some (td.e,td.e2,k.ty,v.ty) else none
  |_,_=>none
 |none=>none
theorem fY{G:bN}(T:bA P G){t ke ve:TypeId}(h:jT G t=some (ke,ve,kt,vt)):P.underlying t=some (.map ke ve)∧kt.keyed=true∧vt.pure=true∧(∃k,G.at ke=some k∧k.ty=kt)∧(∃v,G.at ve=some v∧v.ty=vt):=by
 unfold jT at h
 split at h
 ·rename_i td ht
  split at h
  ·rename_i k v hk hv
   split at h
   ·rename_i hc
    cases h
    simp only[bj] at hc
    exact⟨T.mapOf ht hc.1.1,hc.1.2,hc.2,⟨k,hk,rfl⟩,⟨v,hv,rfl⟩⟩
   grind
  grind
 grind
def sW(G:bN)(d:Nat)(t:TypeId):Option fF:=
 match jT G t with
 |some (_,_,kt,vt)=>some ⟨.mp d,[(d,some (.map kt vt []))],[d],[]⟩
 |none=>none
theorem Bd{G:bN}(T:bA P G){gl:Ctx}{a:Act}(h:bQ gl σ E a w){d:Nat}{t:TypeId}{r:fF}{rs:Option Value}(hrs:∀v,rs=some v→∃k n,v= .int k n)(he:sW G d t=some r)(hfr:∀b∈r.fr,σ.fresh b):
 ∃v w' E',(Instr.makeMap t rs).run P w= .ok v w'∧bQ gl {σ with hp:=aS σ.hp r.hw} E' a w'∧RV E' w' r.v v∧Ext gl.md (bx σ.hp E) E w (bx (aS σ.hp r.hw) E') E' w':=by
 unfold sW at he
 split at he
 ·rename_i ke ve kt vt hm
  cases he
  obtain⟨h1,_⟩:=fY T hm
  have hf:=hfr d (by simp)
  obtain⟨g1,x1⟩:=h.fresh (w':=w.alloc (.map #[] 0)) hf (g:=some w.heap.size) (sv:=undef) (t:=.unit) (k:=.map kt vt []) rfl (Tp.r rfl rfl) rfl (by simp) (fun i hi=>heap_alloc_old w _ i hi) (fun i hi=>by grind)
   ⟨by simp,by grind,w.heap.size, #[],0,by simp[Env.at],heap_alloc_new w _,trivial,by simp,by simp⟩
  refine⟨.map (some w.heap.size),_,_,?_,g1,RV.eS (Or.inr ⟨rfl,w.heap.size,by simp[Env.at],rfl⟩),x1⟩
  cases rs with
  |none=>trivial
  |
   some v=>
   obtain⟨k,n,e⟩:=hrs v rfl
   simp_all[Instr.makeMap,run_underlying,asInt,asIntOf]
 grind
def rz(hb:Nat→Option aO)(kt vt:Ty):AV→Option (List (kt.den×vt.den))
 | .dX=>some []
 |
  .mp b=>match hb b with
  |some (.map k v es)=>if h:Ty.same k kt=true∧Ty.same v vt=true then some (Ty.aB h.1▸Ty.aB h.2▸es) else none
  |_=>none
 | .val (.map k v) y=>if h:Ty.same k kt=true∧Ty.same v vt=true then some (Ty.aB h.1▸Ty.aB h.2▸aX y) else none
 |_=>none
def Be(hb:Nat→Option aO)(kt vt:Ty):AV→Option (List (kt.den×vt.den))
 |
  .mp b=>match hb b with
  |some (.mN k v es _)=>if h:Ty.same k kt=true∧Ty.same v vt=true then some (Ty.aB h.1▸Ty.aB h.2▸es) else none
  |_=>rz hb kt vt (.mp b)
 |x=>rz hb kt vt x
def Bf(ok:Bool)(kt vt:Ty)(k:kt.den)(es:List (kt.den×vt.den)):AV:=
 match ok with
 |true=>.fU (.cons (.val vt (aP kt vt k es)) (.cons (.val .bool (bT kt k es)) .nil))
 |false=>.val vt (aP kt vt k es)
def nA(P:Program)(G:bN)(hb:Nat→Option aO)(t:TypeId)(x i:AV)(ok:Bool):Option (AV×List VC):=
 match jT G t with
 |
  some (ke,_,kt,vt)=>match Be hb kt vt x,i.bB kt with
  |some es,some k=>if i.plain then some (Bf ok kt vt k es,[vc (iM P G 40 ke kt=true)]) else none
  |_,_=>none
 |none=>none
variable{es:List (kt.den×vt.den)}
theorem Ed{gl:Ctx}(hw:HW gl E w hp)(hB:HB hb hp){x:AV}{v:Value}(hx:RV E w x v)(h:rz hb kt vt x=some es):
 (v= .map none∧es= [])∨∃g en clock,v= .map (some g)∧w.heap[g]? =some (.map en clock)∧RM E w kt vt en.toList es:=by
 unfold rz at h
 split at h
 ·cases h
  have:=RV.atom rfl hx
  simp_all[RC]
 ·split at h
  ·rename_i k v' es' hk
   split at h
   ·rename_i hc
    obtain⟨c1,c2⟩:=hc
    have e1:=Ty.aB c1;subst e1
    have e2:=Ty.aB c2;subst e2
    cases h
    obtain⟨g,hg,e⟩:=RV.atom rfl hx
    simp at e
    obtain⟨_,_,g',en,clock,r1,r2,r3,_⟩:=hw.cQ _ _ (hB _ _ hk)
    grind
   grind
  grind
 ·rename_i k v' y
  split at h
  ·rename_i hc
   obtain⟨c1,c2⟩:=hc
   have e1:=Ty.aB c1;subst e1
   have e2:=Ty.aB c2;subst e2
   cases h
   obtain⟨a,e,hr⟩:=RV.atom rfl hx
   simp at e;subst e
   rcases hr with⟨rfl,rfl⟩|⟨es,g,en,clock,rfl,rfl,_,r2,r3,_⟩
   ·exact Or.inl ⟨rfl,rfl⟩
   ·exact Or.inr ⟨g,en,clock,rfl,r2,RM.of r3⟩
  grind
 grind
theorem JZ{gl:Ctx}(hw:HW gl E w hp)(hB:HB hb hp){x:AV}{v:Value}(hx:RV E w x v)(h:Be hb kt vt x=some es):
 (v= .map none∧es= [])∨∃g en clock,v= .map (some g)∧w.heap[g]? =some (.map en clock)∧RM E w kt vt en.toList es:=by
 unfold Be at h
 split at h
 ·split at h
  ·rename_i k v' es' kx hk
   split at h
   ·rename_i hc
    obtain⟨c1,c2⟩:=hc
    have e1:=Ty.aB c1;subst e1
    have e2:=Ty.aB c2;subst e2
    cases h
    obtain⟨g,hg,e⟩:=RV.atom rfl hx
    simp at e
    obtain⟨_,_,g',en,clock,r1,r2,r3,_⟩:=hw.cQ _ _ (hB _ _ hk)
    grind
   grind
  ·exact Ed hw hB hx h
 ·exact Ed hw hB hx h
variable{vi:Value}
theorem Ee{G:bN}(T:bA P G){gl:Ctx}(hw:HW gl E w hp)(hB:HB hb hp){t:TypeId}{x i:AV}{ok:Bool}(hx:RV E w x vx)(hi:RV E w i vi){r:AV}{vc:List VC}(h:nA P G hb t x i ok=some (r,vc))(hvc:dD vc):
 ∃v,(Instr.lookup t vx vi ok).run P w= .ok v w∧RV E w r v:=by
 unfold nA at h
 split at h
 ·rename_i ke ve kt vt hm
  split at h
  ·rename_i es k hes hk
   split at h
   ·rename_i hpl
    cases h
    obtain⟨h1,h2,h3,⟨kd,h4,h5⟩,⟨vd,h6,h7⟩⟩:=fY T hm
    subst h5;subst h7
    obtain⟨he,_⟩:=hvc
    have hkv:bZ E w (.val kd.ty k) vi:=bZ.bB hk (RV.jq hpl hi)
    have hck:=fR T (E:=E) (w:=w)
    have hz:∃z,(zeroValue ve).run P w= .ok z w∧bZ E w (.val vd.ty vd.ty.aD) z:=by
     obtain⟨z,z1,z2,z3⟩:=T.zero h6 w
     have hr:=(fN (E:=E) (w:=w) z2).2 h3
     refine⟨z,z1,?_⟩
     cases z with
     |agg cs=>exact Or.inl ⟨by simp only[EY] at z3;exact z3.symm,cs,rfl,hr⟩
     |_=>exact Or.inr ⟨by simp only[EY] at z3;exact z3.symm,by trivial⟩
    obtain⟨z,z1,z2⟩:=hz
    have fin:∀(en:Array MapEntry),RM E w kd.ty vd.ty en.toList es→∃r,(Instr.checkKey en.isEmpty 10000 ke vi).run P w= .ok () w∧(Instr.findKey ke vi en.toList).run P w= .ok r w∧
     ((r=none∧RV E w (Bf ok kd.ty vd.ty k es) (if ok then Value.tuple #[z,.bool false] else z))∨(∃q,r=some q∧RV E w (Bf ok kd.ty vd.ty k es) (if ok then Value.tuple #[q.2,.bool true] else q.2))):=by
     intro en hen
     obtain⟨r,r1,r2⟩:=lT T h4 he hkv hen
     have hc:=hck en.isEmpty 9960 40 ke kd h4 he k vi hkv
     have hmg:=sV (vt:=vd.ty) (k:=k) (es:=es) (i:=0)
     have nh:bT kd.ty k es=false→aP kd.ty vd.ty k es=vd.ty.aD:=by
      generalize es=es
      induction es with
      |nil=>intro _;rfl
      |
       cons e es ih=>
       simp_all[bT,aP]
     have done:∀(v:Value)(b:Bool),bZ E w (.val vd.ty (aP kd.ty vd.ty k es)) v→b=bT kd.ty k es→RV E w (Bf ok kd.ty vd.ty k es) (if ok then Value.tuple #[v,.bool b] else v):=by
      intro v b k1 k2
      subst k2
      cases ok with
      |true=>exact⟨_,rfl,k1,Or.inr ⟨rfl,rfl⟩,rfl⟩
      |false=>trivial
     revert r2 hmg
     generalize bY kd.ty k es 0=m
     intro r2 hmg
     cases m with
     |
      none=>
      cases r with
      |some _=>trivial
      |
       none=>
       grind
     |
      some p=>
      cases r with
      |none=>trivial
      |
       some q=>
       have hnh:bT kd.ty k es=true:=by
        grind
       rw[hnh] at hmg
       simp at hmg
       exact⟨some q,hc,r1,Or.inr ⟨q,rfl,done q.2 true (by rw[←hmg];exact r2.2) hnh.symm⟩⟩
    rcases JZ hw hB hx hes with⟨e1,e2⟩|⟨g,en,clock,e1,e2,e3⟩
    ·subst e1;subst e2
     obtain⟨r,k1,k2,k3⟩:=fin #[] trivial
     rcases k3 with⟨e,k3⟩|⟨q,e,k3⟩
     ·simp_all[Instr.lookup,run_underlying]
     simp_all[Instr.lookup,run_underlying]
    ·subst e1
     obtain⟨r,k1,k2,k3⟩:=fin en e3
     have amX:(getObj g).run P w= .ok (.map en clock) w:=by simp[getObj,Sem.run,e2]
     rcases k3 with⟨e,k3⟩|⟨q,e,k3⟩
     ·simp_all[Instr.lookup,run_underlying]
     simp_all[Instr.lookup,run_underlying]
   grind
  grind
 grind
def kg(P:Program)(G:bN)(hb:Nat→Option aO)(t:TypeId)(x k v:AV):Option fF:=
 match jT G t,x with
 |
  some (ke,_,kt,vt),.mp b=>match rz hb kt vt (.mp b),k.bB kt,v.bB vt with
  |some es,some k',some v'=>if k.plain&&v.plain then some ⟨.bot,[(b,some (.map kt vt (aZ kt k' v' es)))],[],[vc (iM P G 40 ke kt=true),vc (es.length+1≤aH)]⟩ else none
  |_,_,_=>none
 |_,_=>none
variable{vk:Value}
theorem nB{G:bN}(T:bA P G){gl:Ctx}{a:Act}(h:bQ gl σ E a w)(hB:HB hb σ.hp){t:TypeId}{x k v:AV}{vv:Value}(hx:RV E w x vx)(hk:RV E w k vk)(hv:RV E w v vv){r:fF}(he:kg P G hb t x k v=some r)(hvc:dD r.vc):
 ∃w',(Instr.mapUpdate t vx vk vv).run P w= .ok () w'∧bQ gl {σ with hp:=aS σ.hp r.hw} E a w'∧RV E w' r.v undef∧Ext gl.md (bx σ.hp E) E w (bx (aS σ.hp r.hw) E) E w':=by
 unfold kg at he
 split at he
 ·rename_i ke ve kt vt b hm
  split at he
  ·rename_i es k' v' hes hk' hv'
   split at he
   ·rename_i hpl
    cases he
    simp only[bj] at hpl
    obtain⟨he,hlen,_⟩:=hvc
    obtain⟨h1,h2,h3,⟨kd,h4,h5⟩,⟨vd,h6,h7⟩⟩:=fY T hm
    subst h5;subst h7
    have hkv:bZ E w (.val kd.ty k') vk:=bZ.bB hk' (RV.jq hpl.1 hk)
    have hvv:bZ E w (.val vd.ty v') vv:=bZ.bB hv' (RV.jq hpl.2 hv)
    have hbk:∃es0,hb b=some (.map kd.ty vd.ty es0)∧es0=es:=by
     simp only[rz] at hes
     grind
    obtain⟨es0,hb0,e0⟩:=hbk
    subst e0
    have hbk:=hB b _ hb0
    obtain⟨q1,q2,g,en,clock,q3,q4,q5,q6,q7⟩:=h.hw.cQ b _ hbk
    obtain⟨g',hg',e⟩:=RV.atom rfl hx
    simp at e;subst e
    rw[q3] at hg';cases hg'
    obtain⟨r,r1,r2⟩:=lT T h4 he hkv q5
    have hc:=fR T (E:=E) (w:=w) false 9960 40 ke kd h4 he k' vk hkv
    have amX:(getObj g).run P w= .ok (.map en clock) w:=by simp[getObj,Sem.run,q4]
    have hlt:g<w.heap.size:=(Array.getElem?_eq_some_iff.1 q4).1
    have key:∃en' amL,(Instr.mapUpdate t (.map (some g)) vk vv).run P w= .ok () (w.putObj g (.map en' amL))∧RM E w kd.ty vd.ty en'.toList (aZ kd.ty k' v' es0)∧(∀x∈en'.toList,x.born<amL)∧(en'.toList.map (·.born)).Nodup:=by
     have aS:∀o,(setObj g o).run P w= .ok () (w.putObj g o):=fun o=>by simp[setObj,Sem.run,q4,World.putObj]
     cases hf:bY kd.ty k' es0 0 with
     |
      none=>
      rw[hf] at r2
      cases r with
      |some _=>trivial
      |
       none=>
       refine⟨en.push {key:=vk,val:=vv,born:=clock},clock+1,?_,?_,?_,?_⟩
       ·simp_all[Instr.mapUpdate,run_underlying]
       ·grind [RM.push]
       ·grind
       grind
     |
      some p=>
      obtain⟨i,y⟩:=p
      rw[hf] at r2
      cases r with
      |none=>trivial
      |
       some q=>
       obtain⟨i',u⟩:=q
       obtain⟨e1,e2⟩:=r2
       simp only at e1 e2
       subst e1
       obtain⟨t1,e0,t2,t3⟩:=RM.P5 (i:=0) (j:=i) h2 hkv hvv q5 (by rw[eN];exact hf)
       obtain⟨f1,f2⟩:=bZ.fn h2 t3 hkv
       have hold:((en[i]?).map (·.key)).getD vk=e0.key:=by
        grind
       have hstay:(Instr.keyThatStays (((en[i]?).map (·.key)).getD vk) vk).run P w= .ok vk w:=by
        simp_all[Instr.keyThatStays]
       refine⟨en.modify i fun e=>{e with key:=vk,val:=vv},clock,?_,?_,?_,?_⟩
       ·simp_all[Instr.mapUpdate,run_underlying]
       ·grind
       ·grind [List.mem_iff_getElem?]
       ·have:(en.modify i fun e=>{e with key:=vk,val:=vv}).toList.map (·.born)=en.toList.map (·.born):=by
         rw[Array.toList_modify]
         apply List.ext_getElem?
         grind
        grind
    obtain⟨en',amL,k1,k2,k3,k4⟩:=key
    have kp:bE E w E (w.putObj g (.map en' amL)):=⟨fun i hi=>World.putObj_heap_other (fun e=>h.hw.jI b _ g hbk q3 (e▸hi)),fun _ h=>h⟩
    have hrb:RB E (w.putObj g (.map en' amL)) b (.map kd.ty vd.ty (aZ kd.ty k' v' es0)):=
     ⟨cU h2 q1,dh dy hlen,g,en',amL,q3,World.putObj_heap_same hlt,RM.mono kp k2,k3,k4⟩
    have hw2:=h.hw.write hbk (by simp) (fun i hi=>World.putObj_heap_other (fun e=>hi (by grind))) hrb
    refine⟨_,k1,h.carry kp (fun _ _=>⟨rfl,rfl,rfl⟩) hw2,trivial,⟨rfl,Tp.r rfl rfl,rfl,by simp,?_,fun _ h=>h,fun _ h=>Or.inl h,fun i hi=>Or.inl (bx.jd hbk hi),fun _ _=>⟨rfl,rfl,rfl⟩⟩⟩
    intro i hi ho
    exact World.putObj_heap_other (fun e=>ho ⟨b,_,hbk,by rw[e];exact Or.inl q3⟩)
   grind
  grind
 grind
theorem RM.drop{k:kt.den}:∀{l:List MapEntry}{es:List (kt.den×vt.den)}{i j:Nat}{z:vt.den},
 RM E w kt vt l es→bY kt k es i=some (i+j,z)→RM E w kt vt (l.eraseIdx j) (iZ kt k es)
 |[],[],_,_,_,_,h=>by cases h
 |[],_::_,_,_,_,h,_=>h.elim
 |_::_,[],_,_,_,h,_=>h.elim
 |
  e::l,x::es,i,j,z,⟨h1,h2,h3⟩,h=>by
  simp only[bY] at h
  split at h
  ·simp_all[iZ]
  ·rename_i hb
   have:=xx h
   obtain⟨j,rfl⟩:∃j',j=j'+1:=⟨j -1,by omega⟩
   have h:bY kt k es (i+1)=some (i+1+j,z):=by grind
   simp only[iZ,hb]
   exact⟨h1,h2,RM.drop h3 h⟩
theorem zO{k:kt.den}:∀{es:List (kt.den×α)}{i:Nat},bY kt k es i=none→iZ kt k es=es
 |[],_,_=>rfl
 |
  e::es,i,h=>by
  simp only[bY] at h
  split at h
  ·cases h
  ·rename_i hb
   simp only[iZ,hb]
   simp[zO h]
theorem nC{k:kt.den}:∀{es:List (kt.den×α)},(iZ kt k es).Sublist es
 |[]=>.slnil
 |
  e::es=>by
  simp only[iZ]
  split
  ·exact .cons _ (List.Sublist.refl _)
  ·exact .cons_cons _ nC
def xy(P:Program)(G:bN)(hb:Nat→Option aO)(t:TypeId)(x k:AV):Option fF:=
 match jT G t,x with
 |
  some (ke,_,kt,vt),.mp b=>match rz hb kt vt (.mp b),k.bB kt with
  |some es,some k'=>if k.plain then some ⟨.bot,[(b,some (.map kt vt (iZ kt k' es)))],[],[vc (iM P G 40 ke kt=true)]⟩ else none
  |_,_=>none
 |_,_=>none
theorem Ef{G:bN}(T:bA P G){gl:Ctx}{a:Act}(h:bQ gl σ E a w)(hB:HB hb σ.hp){t:TypeId}{x k:AV}(hx:RV E w x vx)(hk:RV E w k vk){r:fF}(he:xy P G hb t x k=some r)(hvc:dD r.vc):
 ∃v w',(Builtin.delete_ #[t,t2] ty #[vx,vk]).run P w= .ok v w'∧bQ gl {σ with hp:=aS σ.hp r.hw} E a w'∧RV E w' r.v v∧Ext gl.md (bx σ.hp E) E w (bx (aS σ.hp r.hw) E) E w':=by
 unfold xy at he
 split at he
 ·rename_i ke ve kt vt b hm
  split at he
  ·rename_i es k' hes hk'
   split at he
   ·rename_i hpl
    cases he
    obtain⟨he,_⟩:=hvc
    obtain⟨h1,h2,h3,⟨kd,h4,h5⟩,⟨vd,h6,h7⟩⟩:=fY T hm
    subst h5;subst h7
    have hkv:bZ E w (.val kd.ty k') vk:=bZ.bB hk' (RV.jq hpl hk)
    have hbk:∃es0,hb b=some (.map kd.ty vd.ty es0)∧es0=es:=by
     simp only[rz] at hes
     grind
    obtain⟨es0,hb0,e0⟩:=hbk
    subst e0
    have hbk:=hB b _ hb0
    obtain⟨q1,q2,g,en,clock,q3,q4,q5,q6,q7⟩:=h.hw.cQ b _ hbk
    obtain⟨g',hg',e⟩:=RV.atom rfl hx
    simp at e;subst e
    rw[q3] at hg';cases hg'
    obtain⟨r,r1,r2⟩:=lT T h4 he hkv q5
    have hc:=fR T (E:=E) (w:=w) en.isEmpty 9960 40 ke kd h4 he k' vk hkv
    have amX:(getObj g).run P w= .ok (.map en clock) w:=by simp[getObj,Sem.run,q4]
    have hlt:g<w.heap.size:=(Array.getElem?_eq_some_iff.1 q4).1
    have key:∃en',(Builtin.delete_ #[t,t2] ty #[.map (some g),vk]).run P w= .ok (.tuple #[]) (w.putObj g (.map en' clock))∧RM E w kd.ty vd.ty en'.toList (iZ kd.ty k' es0)∧(∀x∈en'.toList,x.born<clock)∧(en'.toList.map (·.born)).Nodup:=by
     have aS:∀o,(setObj g o).run P w= .ok () (w.putObj g o):=fun o=>by simp[setObj,Sem.run,q4,World.putObj]
     cases hf:bY kd.ty k' es0 0 with
     |
      none=>
      rw[hf] at r2
      cases r with
      |some _=>trivial
      |
       none=>
       refine⟨en,?_,?_,q6,q7⟩
       ·simp_all[Builtin.delete_,run_underlying]
       ·rw[zO hf];exact q5
     |
      some p=>
      obtain⟨i,y⟩:=p
      rw[hf] at r2
      cases r with
      |none=>trivial
      |
       some q=>
       obtain⟨i',u⟩:=q
       obtain⟨e1,e2⟩:=r2
       simp only at e1 e2
       subst e1
       have am0:((en.eraseIdxIfInBounds i).toList).Sublist en.toList:=by
        rw[Array.toList_eraseIdxIfInBounds];grind
       refine⟨en.eraseIdxIfInBounds i,?_,?_,fun x hx=>q6 x (am0.subset hx),List.Nodup.sublist (am0.map _) q7⟩
       ·simp_all[Builtin.delete_,run_underlying]
       ·rw[Array.toList_eraseIdxIfInBounds]
        exact RM.drop (i:=0) q5 (by rw[eN];exact hf)
    obtain⟨en',k1,k2,k3,k4⟩:=key
    have kp:bE E w E (w.putObj g (.map en' clock)):=⟨fun i hi=>World.putObj_heap_other (fun e=>h.hw.jI b _ g hbk q3 (e▸hi)),fun _ h=>h⟩
    have hrb:RB E (w.putObj g (.map en' clock)) b (.map kd.ty vd.ty (iZ kd.ty k' es0)):=
     ⟨List.Nodup.sublist (nC.map _) q1,dh nC.length_le q2,g,en',clock,q3,World.putObj_heap_same hlt,RM.mono kp k2,k3,k4⟩
    have hw2:=h.hw.write hbk (by simp) (fun i hi=>World.putObj_heap_other (fun e=>hi (by grind))) hrb
    refine⟨_,_,k1,h.carry kp (fun _ _=>⟨rfl,rfl,rfl⟩) hw2,trivial,⟨rfl,Tp.r rfl rfl,rfl,by simp,?_,fun _ h=>h,fun _ h=>Or.inl h,fun i hi=>Or.inl (bx.jd hbk hi),fun _ _=>⟨rfl,rfl,rfl⟩⟩⟩
    intro i hi ho
    exact World.putObj_heap_other (fun e=>ho ⟨b,_,hbk,by rw[e];exact Or.inl q3⟩)
   grind
  grind
 grind
def iS:List AV→AV
 |[]=>.nil
 |x::l=>.cons x (iS l)
def xz(fn:Fn)(fs cs:List AV):Option AV:=
 if(iS fs).atoms&&(iS cs).atoms then some (.func fn (iS fs) (iS cs)) else(match fn,fs,cs with
  | .func f,[.val t x],[]=>if t.isAgg then some (.fy f t x) else none
  |_,_,_=>none)
theorem pS:∀{l:List Operand}{ev:Operand→AV}{f:Operand→Value},(∀x∈l,RV E w (ev x) (f x))→(iS (l.map ev)).atoms=true→RC E w (iS (l.map ev)) (l.map f)
 |[],_,_,_,_=>rfl
 |
  x::l,ev,f,h,ha=>by
  simp only[dA,iS,AV.atoms,bj] at ha ⊢
  exact⟨[f x],l.map f,rfl,RV.atom ha.1 (h x (cm ..)),pS (fun y hy=>h y (dj _ hy)) ha.2⟩
def oz(ev:Operand→AV)(ps:Array (Nat×Operand)):List (Nat×AV):=ps.toList.map fun x=>(x.1,ev x.2)
theorem lU{f:Operand→Value}:∀{ps:List (Nat×Operand)},(∀x∈ps,RV E w (ev x.2) (f x.2))→RP E w (ps.map fun x=>(x.1,ev x.2)) (ps.map fun x=>(x.1,f x.2))
 |[],_=>trivial
 |x::_l,h=>⟨rfl,h x (cm ..),lU (fun y hy=>h y (dj _ hy))⟩
def zP(P:Program)(G:bN)(d:Nat)(op:Op)(ev:Operand→AV)(hb:Nat→Option aO):Option fF:=
 match op with
 | .build t ps=>(Bb G t (oz ev ps)).map .one
 | .buildSlice t n ps=>(lO G d t n (oz ev ps)).map fun y=>⟨y.1,[(d,some y.2)],[d],[]⟩
 | .makeFunc fn fs cs=>(xz fn (fs.toList.map ev) (cs.toList.map ev)).map .one
 | .slice t x lo hi mx=>(Bc G hb t (ev x) (lo.map ev) (hi.map ev) (mx.map ev)).map .N2
 | .makeSlice t l c=>nz G d t (ev l) (ev c)
 | .binOp o t x y _=>(UY P G o t (ev x) (ev y)).map .N2
 | .call {callee:=.builtin .append,args:=⟨[x,y]⟩,argTypes:=⟨[t,t2]⟩}=>xn G hb d t t2 (ev x) (ev y)
 | .call {callee:=.builtin .delete,args:=⟨[x,k]⟩,argTypes:=⟨[t,_]⟩}=>xy P G hb t (ev x) (ev k)
 | .makeMap t none=>sW G d t
 | .lookup t x i ok=>(nA P G hb t (ev x) (ev i) ok).map .N2
 | .mapUpdate t x k v=>kg P G hb t (ev x) (ev k) (ev v)
 | .insert t x k v=>kg P G hb t (ev x) (ev k) (ev v)
 |_=>none
theorem Bg{f:Operand→Value}{o:Option Operand}(h:∀x,o=some x→RV E w (ev x) (f x)):RO E w (o.map ev) (o.map f):=by
 cases o with
 |none=>trivial
 |some x=>exact h x rfl
theorem Nb{G:bN}(T:bA P G){gl:Ctx}{a:Act}(h:bQ gl σ E a w){o:Oper}{d:Nat}(hB:HB hb σ.hp){r:fF}
 (hev:∀x∈o.op.operands.toList,RV E w (ev x) (a.eval x)) (he:zP P G d o.op ev hb=some r) (hvc:dD r.vc) (hfr:∀b∈r.fr,σ.fresh b):bS P gl σ E a w o r:=by
 unfold zP at he
 split at he
 ·rename_i t ps hop
  obtain⟨u,hu,rfl⟩:=Option.map_eq_some_iff.1 he
  have hp:RP E w (oz ev ps) (ps.map fun(i,x)=>(i,a.eval x)).toList:=by
   rw[Array.toList_map]
   refine lU (fun x hx=>hev x.2 ?_)
   simp only[hop,Op.operands,qt]
   grind
  obtain⟨v,h1,h2⟩:=run_build T hp hu
  exact bS.same h (v:=v) (by simp[execOp,hop,h1]) h2
 ·rename_i t n ps hop
  obtain⟨⟨u,k⟩,hu,rfl⟩:=Option.map_eq_some_iff.1 he
  have hp:RP E w (oz ev ps) (ps.map fun(i,x)=>(i,a.eval x)).toList:=by
   rw[Array.toList_map]
   refine lU (fun x hx=>hev x.2 ?_)
   simp only[hop,Op.operands,qt]
   grind
  obtain⟨v,w',E',h1,h2,h3,h4⟩:=uA T h (hfr d (by simp)) hp hu
  exact⟨_,v,w',E',by simp[execOp,hop,h1],Or.inl rfl,h2,h3,h4⟩
 ·rename_i fn fs cs hop
  obtain⟨u,hu,rfl⟩:=Option.map_eq_some_iff.1 he
  unfold xz at hu
  split at hu
  ·rename_i hc
   cases hu
   simp only[bj] at hc
   have h1:RC E w (iS (fs.toList.map ev)) (fs.toList.map a.eval):=pS (fun x hx=>hev x (by grind [Op.operands])) hc.1
   have h2:RC E w (iS (cs.toList.map ev)) (cs.toList.map a.eval):=pS (fun x hx=>hev x (by grind [Op.operands])) hc.2
   exact bS.same h (v:=.func fn (fs.map a.eval) (cs.map a.eval)) (by simp[execOp,hop,Instr.makeFunc]) (RV.eS (Or.inr ⟨rfl,fs.map a.eval,cs.map a.eval,rfl,by simp_all,by simp_all,hc.1,hc.2⟩))
  ·split at hu
   ·rename_i f t x e1 e2
    split at hu
    ·rename_i ha
     cases hu
     obtain⟨o,ho,hx⟩:∃o,fs.toList= [o]∧ev o= .val t x:=by
      simp_all
     have hcs:cs.toList= []:=List.map_eq_nil_iff.1 e2
     have hv:=hev o (by grind [Op.operands])
     rw[hx] at hv
     have hv0:bZ E w (.val t x) (a.eval o):=hv
     rcases hv0 with⟨_,cl,e,hrel⟩|⟨hn,_⟩
     ·refine bS.same h (v:=.func (.func f) (fs.map a.eval) (cs.map a.eval)) (by simp[execOp,hop,Instr.makeFunc]) (RV.eS (Or.inr ⟨rfl,ha,cl,?_,hrel⟩))
      have e3:fs.map a.eval= #[.agg cl]:=by grind [Array.toList_map]
      simp_all
     grind [AV.isAgg]
    grind
   grind
 ·rename_i t x lo hi mx hop
  obtain⟨⟨u,vc⟩,hu,rfl⟩:=Option.map_eq_some_iff.1 he
  have mem:∀y,y=x∨lo=some y∨hi=some y∨mx=some y→RV E w (ev y) (a.eval y):=by
   simp_all[Op.operands]
  obtain⟨v,h1,h2⟩:=Gg T h.hw hB (mem x (Or.inl rfl)) (Bg (f:=a.eval) fun y hy=>mem y (Or.inr (Or.inl hy))) (Bg (f:=a.eval) fun y hy=>mem y (Or.inr (Or.inr (Or.inl hy)))) (Bg (f:=a.eval) fun y hy=>mem y (Or.inr (Or.inr (Or.inr hy)))) hu hvc
  exact bS.same h (v:=v) (by simp[execOp,hop,h1]) h2
 ·rename_i t l c hop
  obtain⟨v,w',E',h1,h2,h3,h4⟩:=xr T h (hev l (by simp[hop,Op.operands])) (hev c (by simp[hop,Op.operands])) he hvc hfr
  exact⟨_,v,w',E',by simp[execOp,hop,h1],Or.inl rfl,h2,h3,h4⟩
 ·rename_i bo t x y t2 hop
  obtain⟨⟨u,vc⟩,hu,rfl⟩:=Option.map_eq_some_iff.1 he
  obtain⟨h0,v,h1,h2⟩:=P4 T (ox:=x) (oy:=y) (hev x (by simp[hop,Op.operands])) (hev y (by simp[hop,Op.operands])) hu hvc
  exact bS.same h (v:=v) (by simp[execOp,hop,h0,h1]) h2
 ·rename_i x y t t2 hop
  obtain⟨v,w',E',h1,h2,h3,h4⟩:=Ea T (ty:=o.type) h hB (hev x (by simp[hop,Op.operands,Call.operands])) (hev y (by simp[hop,Op.operands,Call.operands])) he hvc hfr
  refine⟨_,v,w',E',?_,Or.inl rfl,h2,h3,h4⟩
  simp[execOp,hop,resolve,invoke,builtin,h1]
 ·rename_i x k t t2 hop
  obtain⟨v,w',h1,h2,h3,h4⟩:=Ef T (t2:=t2) (ty:=o.type) h hB (hev x (by simp[hop,Op.operands,Call.operands])) (hev k (by simp[hop,Op.operands,Call.operands])) he hvc
  refine⟨_,v,w',E,?_,Or.inl rfl,h2,h3,h4⟩
  simp[execOp,hop,resolve,invoke,builtin,h1]
 ·rename_i t hop
  obtain⟨v,w',E',h1,h2,h3,h4⟩:=Bd T (P:=P) (rs:=none) h (fun v hv=>by cases hv) he hfr
  exact⟨_,v,w',E',by simp[execOp,hop,h1],Or.inl rfl,h2,h3,h4⟩
 ·rename_i t x i ok hop
  obtain⟨⟨u,vc⟩,hu,rfl⟩:=Option.map_eq_some_iff.1 he
  obtain⟨v,h1,h2⟩:=Ee T h.hw hB (hev x (by simp[hop,Op.operands])) (hev i (by simp[hop,Op.operands])) hu hvc
  exact bS.same h (v:=v) (by simp[execOp,hop,h1]) h2
 ·rename_i t x k v hop
  obtain⟨w',h1,h2,h4,h3⟩:=nB T h hB (hev x (by simp[hop,Op.operands])) (hev k (by simp[hop,Op.operands])) (hev v (by simp[hop,Op.operands])) he hvc
  exact⟨_,undef,w',E,by simp[execOp,hop,h1],Or.inr ⟨rfl,rfl⟩,h2,h4,h3⟩
 ·rename_i t x k v hop
  obtain⟨w',h1,h2,h4,h3⟩:=nB T h hB (hev x (by simp[hop,Op.operands])) (hev k (by simp[hop,Op.operands])) (hev v (by simp[hop,Op.operands])) he hvc
  exact⟨_,undef,w',E,by simp[execOp,hop,h1],Or.inr ⟨rfl,rfl⟩,h2,h4,h3⟩
 grind
def oA:List (Nat×Nat)→Nat→Option Nat
 |[],_=>none
 |(a,b)::l,x=>if Nat.beq a x then some b else oA l x
def AV.eU(m:List (Nat×Nat)):AV→Option AV
 | .own b=>(oA m b).map .own
 | .ku b lo len=>(oA m b).map fun c=>.ku c lo len
 | .ptr b p=>(oA m b).map fun c=>.ptr c p
 | .mp b=>(oA m b).map .mp
 |
  .func fn fs cs=>match fs.eU m,cs.eU m with
  |some f,some c=>if f.atoms&&c.atoms then some (.func fn f c) else none
  |_,_=>none
 |
  .iface t v=>match v.eU m with
  |some u=>if u.isAgg==v.isAgg then some (.iface t u) else none
  |none=>none
 |
  .cons a b=>match a.eU m,b.eU m with
  |some x,some y=>some (.cons x y)
  |_,_=>none
 | .fU l=>(l.eU m).map .fU
 | .opt _ _=>none
 | .eQ _=>none
 |x=>some x
structure Rn(m:List (Nat×Nat))(E E':Env):Prop where
 at':∀b c,oA m b=some c→E'.g c=E.g b∧E'.sv c=E.sv b∧E'.bt c=E.bt b
 S:∀g,E.S g→E'.S g
theorem AV.P6{m:List (Nat×Nat)}{x y:AV}(h:x.eU m=some y):y.isAgg=x.isAgg:=by
 cases x with
 |own b=>simp only[AV.eU,gW] at h;obtain⟨c,_,rfl⟩:=h;rfl
 |ku b lo len=>simp only[AV.eU,gW] at h;obtain⟨c,_,rfl⟩:=h;rfl
 |ptr b p=>simp only[AV.eU,gW] at h;obtain⟨c,_,rfl⟩:=h;rfl
 |mp b=>simp only[AV.eU,gW] at h;obtain⟨c,_,rfl⟩:=h;rfl
 |
  func fn fs cs=>
  simp only[AV.eU] at h
  split at h
  ·split at h
   ·cases h;rfl
   grind
  grind
 |
  iface t v=>
  simp only[AV.eU] at h
  split at h
  ·split at h
   ·cases h;rfl
   grind
  grind
 |
  cons a b=>
  simp only[AV.eU] at h
  split at h
  ·cases h;rfl
  grind
 |fU l=>simp only[AV.eU,gW] at h;obtain⟨c,_,rfl⟩:=h;rfl
 |opt c v=>trivial
 |eQ c=>trivial
 |_=>grind [AV.eU]
theorem RC.eU{m:List (Nat×Nat)}(r:Rn m E E'):∀{x y:AV}{vs:List Value},x.eU m=some y→RC E w x vs→RC E' w y vs:=by
 intro x
 have kp:bE E w E' w:=⟨fun _ _=>rfl,r.S⟩
 induction x with
 |
  own b=>
  intro y vs h hr
  simp only[AV.eU,gW] at h
  obtain⟨c,hc,rfl⟩:=h
  obtain⟨_,e2,_⟩:=r.at' b c hc
  grind [RC]
 |
  ku b lo len=>
  intro y vs h hr
  simp only[AV.eU,gW] at h
  obtain⟨c,hc,rfl⟩:=h
  obtain⟨_,e2,e3⟩:=r.at' b c hc
  obtain⟨a,c',n,t,hr⟩:=hr
  exact⟨a,c',n,t,by grind⟩
 |
  ptr b p=>
  intro y vs h hr
  simp only[AV.eU,gW] at h
  obtain⟨c,hc,rfl⟩:=h
  obtain⟨e1,e2,e3⟩:=r.at' b c hc
  obtain⟨g,hr⟩:=hr
  exact⟨g,by grind⟩
 |
  mp b=>
  intro y vs h hr
  simp only[AV.eU,gW] at h
  obtain⟨c,hc,rfl⟩:=h
  obtain⟨e1,e2,e3⟩:=r.at' b c hc
  obtain⟨g,hr⟩:=hr
  exact⟨g,by grind⟩
 |
  func fn fs cs ih1 ih2=>
  intro y vs h hr
  simp only[AV.eU] at h
  split at h
  ·rename_i f c hf hc
   split at h
   ·rename_i ha
    cases h
    simp only[bj] at ha
    obtain⟨f',c',e,r1,r2,r3,r4⟩:=hr
    exact⟨f',c',e,ih1 hf r1,ih2 hc r2,ha.1,ha.2⟩
   grind
  grind
 |
  iface t v ih=>
  intro y vs h hr
  simp only[AV.eU] at h
  split at h
  ·rename_i u hu
   split at h
   ·rename_i ha
    cases h
    have ha:u.isAgg=v.isAgg:=by grind
    obtain⟨x,e,hr⟩:=hr
    refine⟨x,e,?_⟩<;>grind
   grind
  grind
 |
  cons a b ih1 ih2=>
  intro y vs h hr
  simp only[AV.eU] at h
  split at h
  ·rename_i x' y' h1 h2
   cases h
   obtain⟨v1,v2,e,r1,r2⟩:=hr
   exact⟨v1,v2,e,ih1 h1 r1,ih2 h2 r2⟩
  grind
 |fU l=>intro y vs h hr;trivial
 |opt c v=>intro y vs h hr;trivial
 |val t x=>intro y vs h hr;simp only[AV.eU,cX] at h;subst h;exact Rel.mono kp.w kp.S hr
 |cd t x=>intro y vs h hr;simp only[AV.eU,cX] at h;subst h;exact RC.mono kp (fun b hb=>by cases hb) (a:=.cd t x) hr
 |iy v=>intro y vs h hr;simp only[AV.eU,cX] at h;subst h;exact RC.mono kp (fun b hb=>by cases hb) (a:=.iy v) hr
 |fy f t x=>intro y vs h hr;simp only[AV.eU,cX] at h;subst h;exact RC.mono kp (fun b hb=>by cases hb) (a:=.fy f t x) hr
 |eQ c=>intro y vs h;trivial
 |_=>intro y vs h hr;simp only[AV.eU,cX] at h;subst h;exact hr
theorem bZ.eU{m:List (Nat×Nat)}(r:Rn m E E'){x y:AV}{v:Value}(h:x.eU m=some y)(hr:bZ E w x v):bZ E' w y v:=by
 have ha:=AV.P6 h
 rcases hr with⟨h1,cs,e,h2⟩|⟨h1,h2⟩
 ·exact Or.inl ⟨by grind,cs,e,RC.eU r h h2⟩
 ·exact Or.inr ⟨by grind,RC.eU r h h2⟩
theorem RT.eU{m:List (Nat×Nat)}(r:Rn m E E'):∀{x y:AV}{vs:List Value},x.eU m=some y→RT E w x vs→RT E' w y vs:=by
 intro x
 induction x with
 |
  cons a b ih1 ih2=>
  intro y vs h hr
  simp only[AV.eU] at h
  split at h
  ·rename_i x' y' h1 h2
   cases h
   cases vs with
   |nil=>trivial
   |cons v vs=>exact⟨bZ.eU r h1 hr.1,ih2 h2 hr.2⟩
  grind
 |nil=>intro y vs h hr;simp only[AV.eU,cX] at h;subst h;exact hr
 |_=>intro y vs h hr;trivial
theorem RV.eU{m:List (Nat×Nat)}(r:Rn m E E'){x y:AV}{v:Value}(h:x.eU m=some y)(hr:RV E w x v):RV E' w y v:=by
 cases x with
 |bot=>simp only[AV.eU,cX] at h;subst h;trivial
 |
  fU l=>
  simp only[AV.eU,gW] at h
  obtain⟨l',h,rfl⟩:=h
  obtain⟨vs,e,hr⟩:=hr
  exact⟨vs,e,RT.eU r h hr⟩
 |opt c a=>trivial
 |_=>exact RV.eS (bZ.eU r h hr)
def aO.eU(m:List (Nat×Nat)):aO→Option aO
 |
  .var t v=>match v.eU m with
  |some u=>if u.cp t then some (.var t u) else none
  |none=>none
 |
  .tv g t v=>match v.eU m with
  |some u=>if u.cp t then some (.tv g t u) else none
  |none=>none
 |
  .cI e bs t xs i v=>match v.eU m with
  |some u=>if u.cp t then some (.cI e bs t xs i u) else none
  |none=>none
 | .cT _ _ _ _ _ (some _)| .pmap _ _ _ _ (some _)| .gp .. | .mN .. | .iu .. =>none
 |k=>some k
theorem RB.eU{m:List (Nat×Nat)}(r:Rn m E E'){b c:Nat}(hc:E'.g c=E.g b∧E'.sv c=E.sv b∧E'.bt c=E.bt b){k:aO}(hP:k.Ua=true→∀g,E.P b g→E'.P c g)(h:k.eU m=some k')(hk:RB E w b k):RB E' w c k':=by
 obtain⟨e1,e2,e3⟩:=hc
 have kp:bE E w E' w:=⟨fun _ _=>rfl,r.S⟩
 cases k with
 |
  var t v=>
  simp only[aO.eU] at h
  split at h
  ·rename_i u hu
   split at h
   ·rename_i hconf
    cases h
    obtain⟨h1,h2,g,c',e,h3,h4,h5⟩:=hk
    exact⟨by grind,hconf,g,c',e,by grind,h4,RC.eU r hu h5⟩
   grind
  grind
 |
  row e bs t xs=>
  simp only[aO.eU,cX] at h;subst h
  obtain⟨h1,h2,h3,h4,a,cap,h5,h6,h7⟩:=hk
  refine⟨by grind,h2,h3,h4,a,cap,by grind,h6,?_⟩
  rcases h7 with⟨h7,h8,h9⟩|⟨g,c',h7,h8,h9,h10,h11,h12⟩
  ·grind
  ·exact Or.inr ⟨g,c',by grind,h8,h9,h10,h11,bk.mono (fun _ _=>Rel.mono kp.w kp.S) h12⟩
 |
  map kt vt es=>
  simp only[aO.eU,cX] at h;subst h
  obtain⟨h1,h1',g,en,clock,h2,h3,h4,h5,h6⟩:=hk
  exact⟨h1,h1',g,en,clock,by grind,h3,RM.mono kp h4,h5,h6⟩
 |
  gq e bs t xs=>
  simp only[aO.eU,cX] at h;subst h
  obtain⟨ys,hp,h1,h2,h3,h4,a,cap,h5,h6,h7⟩:=hk
  refine⟨ys,hp,by grind,h2,h3,h4,a,cap,by grind,h6,?_⟩
  rcases h7 with⟨h7,h8,h9⟩|⟨g,c',h7,h8,h9,h10,h11,h12⟩
  ·grind
  ·exact Or.inr ⟨g,c',by grind,h8,h9,h10,h11,bk.mono (fun _ _=>Rel.mono kp.w kp.S) h12⟩
 |
  kB k v rest cur=>
  simp only[aO.eU,cX] at h;subst h
  obtain⟨g,om,since,seen,c0,q1,q2,q3⟩:=hk
  refine⟨g,om,since,seen,c0,by grind,q2,q3.imp id ?_⟩
  rintro⟨bm,en,r1,r2,r3,r4,r5,r6,r7,r8⟩
  refine⟨bm,en,r1,kp.S bm r2,r3,r4,r5,r6,RM.mono kp r7,fun x hx=>?_⟩
  obtain⟨e,s0,t1,t2,t3,t4⟩:=r8 x hx
  exact⟨e,s0,t1,t2,bZ.mono kp (fun _ hb=>by cases hb) t3,bZ.mono kp (fun _ hb=>by cases hb) t4⟩
 |
  cT e bs t xs e2' f=>
  cases f with
  |some f=>trivial
  |
   none=>
   simp only[aO.eU,cX] at h;subst h
   obtain⟨h1,h2,h3,h4,h5,g,cap,c',og,q1,q2,q3,q4,q5,q6,q7,q8⟩:=hk
   refine⟨by grind,h2,h3,h4,h5,g,cap,c',og,by grind,q2,by grind,q4,q5,q6,q7.mono (hP rfl),fun i x hx=>?_⟩
   obtain⟨u,r1,r2,r3⟩:=q8 i x hx
   exact⟨u,r1,fun v hv=>(by cases hv),fun hv=>cZ.mono kp.w kp.S (fun _ _=>rfl) (r3 (fun v hv=>by cases hv))⟩
 |
  pmap kt t es e2' f=>
  cases f with
  |some f=>trivial
  |
   none=>
   simp only[aO.eU,cX] at h;subst h
   obtain⟨h1,h2,h3,g,en,clock,og,q1,q2,q3,q4,q5,q6,q7,q8⟩:=hk
   refine⟨h1,h2,h3,g,en,clock,og,by grind,q2,q3,q4,q5.mono (hP rfl),q6,fun i x hx=>?_,fun kx v=>⟨fun hf=>(by cases hf),fun hf=>(by cases hf)⟩⟩
   obtain⟨m,r1,r2,r3,r4⟩:=q7 i x hx
   exact⟨m,r1,bZ.mono kp (fun _ hb=>by cases hb) r2,fun v pr hv=>(by cases hv),fun hv=>cZ.mono kp.w kp.S (fun _ _=>rfl) (r4 (fun v pr hv=>by cases hv))⟩
 |gp kt t es e2' kx v pr=>trivial
 |mN kt t es kx=>trivial
 |iu kt l=>trivial
 |lp l r=>simp only[aO.eU,cX] at h;subst h;exact⟨by rw[e1];exact hk.1,hk.2⟩
 |uS=>simp only[aO.eU,cX] at h;subst h;obtain⟨g,h1,h2⟩:=hk;exact⟨g,by grind,h2⟩
 |
  tv g t v=>
  simp only[aO.eU] at h
  split at h
  ·rename_i u hu
   split at h
   ·rename_i hconf
    cases h
    obtain⟨h0,h1,h2,c',e,h4,h5⟩:=hk
    exact⟨by grind,by grind,hconf,c',e,h4,RC.eU r hu h5⟩
   grind
  grind
 |
  cI e bs t xs i v=>
  simp only[aO.eU] at h
  split at h
  ·rename_i u hu
   split at h
   ·rename_i hconf
    cases h
    obtain⟨h1,h2,h3,h4,h5,h6,g,cap,c',q1,q2,q3,q4,q5,q6,q7,q8,q9⟩:=hk
    exact⟨by grind,h2,h3,h4,h5,hconf,g,cap,c',by grind,q2,by grind,q4,q5,q6,bk.mono (fun _ _=>Rel.mono kp.w kp.S) q7,RC.eU r hu q8,bk.mono (fun _ _=>Rel.mono kp.w kp.S) q9⟩
   grind
  grind
theorem sX:∀{x:AV}{m:Bool}{t:Ty}{y:AV}{l:List Nat},view hb x m t=some (y,l)→y.ids= []:=by
 intro x
 induction x with
 |val u x=>intro m t y l h;simp only[view,cX,iv] at h;rw[←h.1];rfl
 |bn=>intro m t y l h;cases m<;>cases t<;>simp[view] at h<;>(rw[←h.1];rfl)
 |
  own b=>
  intro m t y l h
  have h':(match eH hb b with|some ⟨bs,t,xs⟩=>some (AV.val (.slice bs t) xs,[b])|none=>none)=some (y,l):=by trivial
  split at h'<;>cases h';rfl
 |
  ku b lo len=>
  intro m t y l h
  have h':(match eH hb b with|some ⟨bs,t,xs⟩=>some (AV.val (.slice bs t) ((xs.drop lo).take len),[b])|none=>none)=some (y,l):=by trivial
  split at h'<;>cases h';rfl
 |
  ptr b p=>
  intro m t y l h
  have h':(match hb b with
   |
    some k=>match mT k p,(kP k).sub p with
    |
     some u,some s=>match u.bB s with
     |some y=>some (AV.cd s y,[b])
     |none=>mh hb b u
    |_,_=>none
   |none=>none)=some (y,l):=by trivial
  split at h'
  ·split at h'
   ·split at h'
    ·cases h';rfl
    ·exact(oo h').1
   grind
  grind
 |iy v=>
  intro m t y l h;have h':some (AV.iy v,([]:List Nat))=some (y,l):=by trivial
  cases h';rfl
 |cd u x=>
  intro m t y l h;have h':some (AV.cd u x,([]:List Nat))=some (y,l):=by trivial
  cases h';rfl
 |
  func fn fs cs ih1 ih2=>
  grind [view,AV.ids]
 |
  cons a b ih1 ih2=>
  intro m t y l h
  cases m with
  |
   true=>
   grind [view,AV.ids]
  |
   false=>
   cases t with
   |
    pair s t=>
    simp only[view] at h
    split at h
    ·cases h;rfl
    grind
   |_=>trivial
 |nil=>intro m t y l h;cases m<;>cases t<;>simp[view] at h<;>(rw[←h.1];rfl)
 |eP=>
  intro m t y l h;have h':some (AV.eP,([]:List Nat))=some (y,l):=by trivial
  cases h';rfl
 |fv=>
  intro m t y l h;have h':some (AV.fv,([]:List Nat))=some (y,l):=by trivial
  cases h';rfl
 |
  mp b=>
  intro m t y l h
  have h':(match hb b with
   |some (.map k v es)=>some (AV.val (.map k v) (some es),[b])
   |_=>none)=some (y,l):=by trivial
  split at h'
  ·cases h';rfl
  grind
 |
  fy f u x=>
  intro m t y l h
  have h':some (AV.fy f u x,([]:List Nat))=some (y,l):=by trivial
  cases h';rfl
 |_=>grind [view]
def UZ(φ:List (Nat×Nat))(hb:Nat→Option aO)(x:AV)(t:Ty):Option (AV×List Nat):=
 if x.ids.isEmpty then(match view hb x false t with
  |some r=>some r
  |none=>(x.eU φ).map fun y=>(y,[]))
 else match x.eU φ with
  |some y=>some (y,[])
  |none=>view hb x false t
def mo(φ:List (Nat×Nat))(hb:Nat→Option aO):List (AV×Ty)→Option (List AV×List Nat)
 |[]=>some ([],[])
 |
  (x,t)::l=>if x.plain then(match UZ φ hb x t,mo φ hb l with
  |some (y,m),some (ys,ms)=>some (y::ys,m++ms)
  |_,_=>none) else none
variable{φ:List (Nat×Nat)}
theorem nD{gl:Ctx}{E0:Env}(hw:HW gl E w hp)(hB:HB hb hp)(hφ:∀b c,oA φ b=some c→E0.g c=E.g b∧E0.sv c=E.sv b∧E0.bt c=E.bt b):
 ∀{l:List (AV×Ty)}{ys:List AV}{ms:List Nat}{vs:List Value},mo φ hb l=some (ys,ms)→(∀g,(E.cH ms).S g→E0.S g)→lz E w (l.map (·.1)) vs→lz E0 w ys vs
 |
  [],ys,ms,vs,h,_,hr=>by
  cases h
  cases vs with
  |nil=>trivial
  |cons _ _=>trivial
 |
  (x,t)::l,ys,ms,vs,h,hS,hr=>by
  unfold mo at h
  split at h
  ·rename_i hp
   split at h
   ·rename_i y m ys' ms' h1 h2
    cases h
    cases vs with
    |nil=>exact hr.elim
    |
     cons v vs=>
     have hS1:∀g,(E.cH m).S g→E0.S g:=fun g hg=>hS g (hg.imp id (fun⟨b,hb,e⟩=>⟨b,List.mem_append.2 (Or.inl hb),e⟩))
     have hS2:∀g,(E.cH ms').S g→E0.S g:=fun g hg=>hS g (hg.imp id (fun⟨b,hb,e⟩=>⟨b,List.mem_append.2 (Or.inr hb),e⟩))
     refine⟨?_,nD hw hB hφ h2 hS2 hr.2⟩
     have hview:view hb x false t=some (y,m)→RV E0 w y v:=fun hv=>by
      have k1:=D7 hw hB hv (RV.jq hp hr.1)
      exact RV.eS (bZ.mono (E:=E.cH m) (E':=E0) ⟨fun _ _=>rfl,hS1⟩ (by rw[sX hv];intro b hb;cases hb) k1)
     unfold UZ at h1
     split at h1
     ·split at h1
      ·rename_i r hr';cases h1;exact hview hr'
      ·obtain⟨z,hz,e⟩:=Option.map_eq_some_iff.1 h1
       cases e
       exact RV.eU ⟨hφ,fun g hg=>hS1 g (Or.inl hg)⟩ hz hr.1
     ·split at h1
      ·rename_i z hz
       cases h1
       exact RV.eU ⟨hφ,fun g hg=>hS1 g (Or.inl hg)⟩ hz hr.1
      ·exact hview h1
   ·cases h
  ·cases h
theorem lV:∀{l:List (AV×Ty)}{ys:List AV}{ms:List Nat},mo φ hb l=some (ys,ms)→∀b∈ms,∃k,hb b=some k
 |[],ys,ms,h=>by cases h<;>grind
 |
  (x,t)::l,ys,ms,h=>by
  unfold mo at h
  split at h
  ·split at h
   ·rename_i y m ys' ms' h1 h2
    cases h
    intro b hb'
    rcases List.mem_append.1 hb' with hb'|hb'
    ·unfold UZ at h1
     split at h1
     ·split at h1
      ·rename_i r hr';cases h1;exact sU hr' b hb'
      ·obtain⟨z,hz,e⟩:=Option.map_eq_some_iff.1 h1
       cases e
       cases hb'
     ·split at h1
      ·cases h1;cases hb'
      ·exact sU h1 b hb'
    ·exact lV h2 b hb'
   ·cases h
  ·cases h
def jf(φ:List (Nat×Nat))(hb:Nat→Option aO):List (Nat×Nat)→Option (List (Nat×Option aO))
 |[]=>some []
 |
  (i,b)::l=>match hb b with
  |
   some k=>match k.eU φ,jf φ hb l with
   |some k',some m=>some ((i,some k')::m)
   |_,_=>none
  |none=>none
theorem pT:∀{l:List (Nat×Nat)}{m:List (Nat×Option aO)}{i:Nat}{k:aO},jf φ hb l=some m→(i,some k)∈m→∃b k0,(i,b)∈l∧hb b=some k0∧k0.eU φ=some k
 |[],m,i,k,h,hm=>by cases h;cases hm
 |
  (j,b)::l,m,i,k,h,hm=>by
  unfold jf at h
  split at h
  ·rename_i k0 hk0
   split at h
   ·rename_i k' m' h1 h2
    cases h
    cases hm with
    |head=>exact⟨b,k0,cm ..,hk0,h1⟩
    |
     tail _ hm=>
     obtain⟨b',k1,q1,q2,q3⟩:=pT h2 hm
     exact⟨b',k1,dj _ q1,q2,q3⟩
   ·cases h
  ·cases h
theorem fu{c:Nat}{k:aO}:∀{l:List (Nat×Option aO)}{hp:List (Option aO)},(aS hp l)[c]? =some (some k)→(c,some k)∈l∨(c∉wrote l∧hp[c]? =some (some k))
 |[],hp,h=>Or.inr ⟨by simp[wrote],h⟩
 |
  (b,o)::l,hp,h=>by
  rw[aS] at h
  rcases fu h with h1|⟨h1,h2⟩
  ·grind
  ·rw[dv] at h2
   split at h2
   ·grind
   ·rename_i e
    refine Or.inr ⟨?_,h2⟩
    simp only[wrote,fg,not_or]
    grind
def kA:List Nat→Bool
 |[]=>true
 |x::l=> !cq x l&&kA l
theorem fZ:∀{l:List Nat},kA l=true→l.Nodup
 |[],_=>List.nodup_nil
 |
  x::l,h=>by
  simp only[kA,bj,gZ] at h
  exact List.nodup_cons.2 ⟨fa h.1,fZ h.2⟩
theorem rA:∀{l:List (Nat×Nat)}{a b:Nat},oA l a=some b→(a,b)∈l
 |[],a,b,h=>by cases h
 |
  (x,y)::l,a,b,h=>by
  unfold oA at h
  split at h
  ·rename_i e;cases h;rw[bM e];exact cm ..
  ·exact dj _ (rA h)
theorem eJ:∀{l:List (Nat×Nat)}{a b:Nat},(l.map (·.1)).Nodup→(a,b)∈l→oA l a=some b
 |
  (x,y)::l,a,b,hn,hm=>by
  simp only[dA,kM] at hn
  unfold oA
  cases hm with
  |head=>simp
  |
   tail _ hm=>
   have:x≠a:=fun e=>hn.1 (e▸List.mem_map.2 ⟨(a,b),hm,rfl⟩)
   have hb:Nat.beq x a=false:=by
    cases h:Nat.beq x a<;>simp_all
   rw[hb]
   exact eJ hn.2 hm
def swp(l:List (Nat×Nat)):List (Nat×Nat):=l.map fun x=>(x.2,x.1)
theorem ki{l:List (Nat×Nat)}{a b:Nat}:(a,b)∈swp l↔(b,a)∈l:=by
 unfold swp
 grind
def uJ:List (Nat×aO)→Nat→Option aO
 |[],_=>none
 |(i,k)::l,x=>if Nat.beq i x then some k else uJ l x
theorem Iz:∀{l:List (Nat×aO)}{a:Nat}{k:aO},uJ l a=some k→(a,k)∈l
 |[],a,b,h=>by cases h
 |
  (x,y)::l,a,b,h=>by
  unfold uJ at h
  split at h
  ·rename_i e;cases h;rw[bM e];exact cm ..
  ·exact dj _ (Iz h)
def cY(m:Nat)(out:List (Nat×aO)):List (Option aO):=aS (List.replicate m none) (out.map fun x=>(x.1,some x.2))
theorem Bh{m:Nat}:∀{out:List (Nat×aO)}{hp:List (Option aO)}{i:Nat}{k:aO},(out.map (·.1)).Nodup→(i,k)∈out→i<hp.length→(aS hp (out.map fun x=>(x.1,some x.2)))[i]? =some (some k)
 |
  (j,k')::out,hp,i,k,hn,hm,hl=>by
  simp only[dA,kM] at hn
  rw[dA,aS]
  cases hm with
  |
   head=>
   have hw:∀(l:List (Nat×aO)),j∉l.map (·.1)→j∉wrote (l.map fun x=>(x.1,some x.2)):=by
    intro l
    induction l with
    |nil=>simp[wrote]
    |cons x l ih=>simp_all[wrote]
   grind [eA]
  |tail _ hm=>exact Bh (m:=m) hn.2 hm (by grind)
structure CR where
 r:AV
 ps:List (Nat×Nat)
 ns:List (Nat×Nat)
 out:List (Nat×aO)
 m:Nat
 kC:Bool:=false
 ks:List (Nat×Nat):=[]
 us:List Nat:=[]
def CR.pb(cr:CR):List Nat:=cr.ps.map (·.2)++cr.us
def CR.al(cr:CR):List (Nat×Nat):=match cr.ks with
 |[]=>cr.ps
 |k::ks=>cr.ps++k::ks
variable{cr:CR}
theorem CR.sub{x:Nat×Nat}(h:x∈cr.ps):x∈cr.al:=by
 grind [CR.al]
theorem CR.Yr(cr:CR):cr.ps.Sublist cr.al:=by
 grind [CR.al]
def CR.fin(cr:CR):yf:=if cr.kC then .kC cr.r else .ret cr.r
def Ty.zQ:Ty→Bool
 | .slice _ t=>t.flat
 | .map k v=>k.flat&&v.flat
 |_=>false
variable{S':Nat→Prop}
theorem ir.flat{t:Ty}(hf:t.flat=true){v:Value}{x:t.den}(h:ir t.isAgg (Rel w S t) v x):ir t.isAgg (Rel w' S' t) v x:=ir.mono (fun _ _=>Rel.flat hf) h
theorem cZ.flat{e:TypeId}{t:Ty}{v:Value}{og:Option Nat}{x:t.den}(hf:t.zQ=true)(h:cZ w S e t v og x):cZ w S' e t v og x:=by
 cases t with
 |
  slice bs t=>
  obtain⟨h1,h2,h3,a,cap,h4,h5,h6⟩:=h
  refine⟨h1,h2,h3,a,cap,h4,h5,h6.imp id ?_⟩
  rintro⟨g,c,k1,k2,k3,k4,k5,k6⟩
  exact⟨g,c,k1,k2,k3,k4,k5,bk.mono (fun _ _=>Rel.flat hf) k6⟩
 |
  map k u=>
  simp only[Ty.zQ,bj] at hf
  obtain⟨es,h0,h1,h2,g,en,clock,h3,h4,h5,h6,h7⟩:=h
  exact⟨es,h0,h1,h2,g,en,clock,h3,h4,h5,jY.mono (fun _ _=>ir.flat hf.1) (fun _ _=>ir.flat hf.2) h6,h7⟩
 |_=>trivial
def aO.jS:aO→Bool
 | .var _ v=>v.eE
 | .tv _ _ v=>v.eE
 | .cI _ _ t _ _ v=>t.flat&&v.eE
 | .row _ _ t _=>t.flat
 | .map k v _=>k.flat&&v.flat
 | .gq _ _ t _=>t.flat
 | .kB _ _ _ _=>false
 | .gp _ _ _ _ _ _ _=>false
 | .mN _ _ _ _=>false
 | .iu _ _=>false
 | .cT _ _ t _ _ f=>t.zQ&&f.isNone
 | .pmap k t _ _ f=>k.flat&&t.zQ&&f.isNone
 |_=>true
theorem RM.flat{k v:Ty}(hk:k.flat=true)(hv:v.flat=true):∀{l:List MapEntry}{xs:List (k.den×v.den)},RM E w k v l xs→RM E' w' k v l xs
 |[],[],_=>trivial
 |[],_::_,h=>h.elim
 |_::_,[],h=>h.elim
 |_::_,_::_,h=>⟨bZ.flat (a:=.val k _) hk h.1,bZ.flat (a:=.val v _) hv h.2.1,RM.flat hk hv h.2.2⟩
theorem RB.flat{b:Nat}{k:aO}(hf:k.jS=true)(h:RB E w b k):RB {E with S:=S} w b k:=by
 cases k with
 |
  var t v=>
  obtain⟨h1,h2,g,c,e,h3,h4,h5⟩:=h
  exact⟨h1,h2,g,c,e,h3,h4,RC.eE hf h5⟩
 |
  row e bs t xs=>
  obtain⟨h1,h2,h3,h4,a,cap,h5,h6,h7⟩:=h
  refine⟨h1,h2,h3,h4,a,cap,h5,h6,h7.imp id ?_⟩
  rintro⟨g,c,h7,h8,h9,h10,h11,h12⟩
  exact⟨g,c,h7,h8,h9,h10,h11,bk.mono (fun _ _=>Rel.flat hf) h12⟩
 |
  map kt vt es=>
  simp only[aO.jS,bj] at hf
  obtain⟨h1,h1',g,en,clock,h2,h3,h4,h5⟩:=h
  exact⟨h1,h1',g,en,clock,h2,h3,RM.flat hf.1 hf.2 h4,h5⟩
 |
  gq e bs t xs=>
  obtain⟨ys,hp,h1,h2,h3,h4,a,cap,h5,h6,h7⟩:=h
  refine⟨ys,hp,h1,h2,h3,h4,a,cap,h5,h6,h7.imp id ?_⟩
  rintro⟨g,c,h7,h8,h9,h10,h11,h12⟩
  exact⟨g,c,h7,h8,h9,h10,h11,bk.mono (fun _ _=>Rel.flat hf) h12⟩
 |kB k v rest cur=>cases hf
 |gp kt t es e2' kx v pr=>cases hf
 |mN kt t es kx=>cases hf
 |iu kt l=>cases hf
 |
  cT e bs t xs e2' f=>
  simp only[aO.jS,bj,Option.isNone_iff_eq_none] at hf
  obtain⟨hf,hn⟩:=hf
  subst hn
  obtain⟨h1,h2,h3,h4,h5,g,cap,c',og,q1,q2,q3,q4,q5,q6,q7,q8⟩:=h
  refine⟨h1,h2,h3,h4,h5,g,cap,c',og,q1,q2,q3,q4,q5,q6,q7,fun i x hx=>?_⟩
  grind [cZ.flat]
 |
  pmap kt t es e2' f=>
  simp only[aO.jS,bj,Option.isNone_iff_eq_none] at hf
  obtain⟨⟨hk,hf⟩,hn⟩:=hf
  subst hn
  obtain⟨h1,h2,h3,g,en,clock,og,q1,q2,q3,q4,q5,q6,q7,q8⟩:=h
  refine⟨h1,h2,h3,g,en,clock,og,q1,q2,q3,q4,q5,q6,fun i x hx=>?_,fun kx v=>⟨fun hf=>(by cases hf),fun hf=>(by cases hf)⟩⟩
  obtain⟨m,r1,r2,r3,r4⟩:=q7 i x hx
  exact⟨m,r1,bZ.flat (a:=.val kt _) hk r2,fun v pr hv=>(by cases hv),fun hv=>cZ.flat hf (r4 (fun v pr hv=>by cases hv))⟩
 |lp l r=>exact h
 |uS=>exact h
 |
  tv g t v=>
  obtain⟨h0,h1,h2,c,e,h4,h5⟩:=h
  exact⟨h0,h1,h2,c,e,h4,RC.eE hf h5⟩
 |
  cI e bs t xs i v=>
  simp only[aO.jS,bj] at hf
  obtain⟨h1,h2,h3,h4,h5,h6,g,cap,c,q1,q2,q3,q4,q5,q6,q7,q8,q9⟩:=h
  exact⟨h1,h2,h3,h4,h5,h6,g,cap,c,q1,q2,q3,q4,q5,q6,bk.mono (fun _ _=>Rel.flat hf.1) q7,RC.eE hf.2 q8,bk.mono (fun _ _=>Rel.flat hf.1) q9⟩
def Nc(ψ:List (Nat×Nat))(out:List (Nat×aO))(i:Nat):Option aO:=
 match uJ out i with
 |some k=>k.eU ψ
 |none=>none
def mz(ψ:List (Nat×Nat))(out:List (Nat×aO)):List (Nat×Nat)→List (Nat×Option aO)
 |[]=>[]
 |(i,b)::l=>(b,Nc ψ out i)::mz ψ out l
variable{ψ:List (Nat×Nat)}{out:List (Nat×aO)}
theorem Eg:∀{l:List (Nat×Nat)}{c:Nat}{k:aO},(c,some k)∈mz ψ out l→∃i,(i,c)∈l∧Nc ψ out i=some k
 |[],c,k,h=>by cases h
 |
  (i,b)::l,c,k,h=>by
  unfold mz at h
  rcases List.mem_cons.1 h with h|h
  ·simp only[iv] at h
   exact⟨i,by rw[h.1];exact cm ..,h.2.symm⟩
  ·obtain⟨j,h1,h2⟩:=Eg h
   exact⟨j,dj _ h1,h2⟩
theorem xA:∀{l:List (Nat×Nat)}{i b:Nat},(i,b)∈l→b∈wrote (mz ψ out l)
 |
  (j,c)::l,i,b,h=>by
  unfold mz
  simp only[wrote,fg]
  cases h with
  |head=>grind
  |tail _ h=>exact Or.inr (xA h)
def Am:List Nat→List Nat→Bool
 |[],_=>true
 |x::l,m=>cq x m&&Am l m
def Eh(n:Nat):List Nat→Bool
 |[]=>true
 |x::l=>Nat.blt x n&&Eh n l
theorem rC{n:Nat}:∀{l:List Nat},Eh n l=true→∀x∈l,x<n
 |[],_,x,hx=>by cases hx
 |
  y::l,h,x,hx=>by
  simp only[Eh,bj] at h
  cases hx with
  |head=>simp_all
  |tail _ hx=>exact rC h.2 x hx
def IA:List Nat→List Nat→Bool
 |[],_=>true
 |x::l,m=> !cq x m&&IA l m
theorem Ei:∀{l m:List Nat},IA l m=true→∀x∈l,x∉m
 |[],_,_,x,hx=>by cases hx
 |
  y::l,m,h,x,hx=>by
  simp only[IA,bj,gZ] at h
  cases hx with
  |head=>exact fa h.1
  |tail _ hx=>exact Ei h.2 x hx
def rD:List (Nat×aO)→Bool
 |[]=>true
 |(_,k)::l=>k.jS&&rD l
theorem xB:∀{l:List (Nat×aO)},rD l=true→∀i k,(i,k)∈l→k.jS=true
 |[],_,i,k,h=>by cases h
 |
  (j,k')::l,hf,i,k,h=>by
  simp only[rD,bj] at hf
  cases h with
  |head=>exact hf.1
  |tail _ h=>exact xB hf.2 i k h
def Bi(cr:CR)(lent:List Nat):Bool:=
 kA (cr.al.map (·.1))&&kA ((cr.al++cr.ns).map (·.2))&&Eh 16 (cr.al.map (·.1))&&kA (cr.out.map (·.1))&&Eh cr.m (cr.out.map (·.1))&&IA lent (cr.ps.map (·.2))&&kA ((cr.al++cr.ns).map (·.1))&&
  (lent.isEmpty||(cr.r.eE&&rD cr.out))
def Nf:AV→Option (Fn×List AV×List AV)
 | .func fn fs cs=>if Ug fn fs cs&&fs.atoms&&cs.atoms then some (fn,fs.toList,cs.toList) else none
 | .fy f t x=>some (.func f,[.val t x],[])
 |_=>none
theorem P7{a:AV}{v:Value}{fn:Fn}{fl cl:List AV}(h:Nf a=some (fn,fl,cl))(hr:RV E w a v):∃f c,v= .func fn f c∧lz E w fl f.toList∧lz E w cl c.toList∧((∃g,fn= .func g)∨(∃l,fn= .yield l)∧fl= []∧cl= []):=by
 cases a with
 |
  func fn' fs cs=>
  simp only[Nf] at h
  split at h
  ·rename_i hc
   cases h
   simp only[bj] at hc
   obtain⟨f',c',e,r1,r2,_,_⟩:=RV.atom rfl hr
   simp at e
   refine⟨f',c',e,lz.atoms hc.1.2 r1,lz.atoms hc.2 r2,?_⟩
   cases fn with
   |func g=>grind
   |
    yield l=>
    cases fs<;>simp[Ug] at hc
    cases cs<;>simp at hc
    exact Or.inr ⟨⟨l,rfl⟩,rfl,rfl⟩
   |_=>simp[Ug] at hc
  grind
 |
  fy f t x=>
  simp only[Nf,cX,iv] at h
  obtain⟨rfl,rfl,rfl⟩:=h
  obtain⟨ha,cs,e,hrel⟩:=RV.atom rfl hr
  simp at e
  exact⟨#[.agg cs], #[],e,⟨RV.eS (Or.inl ⟨ha,cs,rfl,hrel⟩),trivial⟩,trivial,Or.inl ⟨f,rfl⟩⟩
 |_=>trivial
def lkM(n:String):List MS→Option MS
 |[]=>none
 |m::l=>if m.name==n then some m else lkM n l
theorem Ng{n:String}:∀{l:List MS}{m:MS},lkM n l=some m→m∈l∧m.name=n
 |[],_,h=>by cases h
 |
  x::l,m,h=>by
  simp only[lkM] at h
  split at h
  ·rename_i e;cases h;exact⟨cm ..,by simpa using e⟩
  ·obtain⟨h1,h2⟩:=Ng h;exact⟨dj _ h1,h2⟩
def IB(G:bN)(hb:Nat→Option aO)(name:String):AV→Option (FuncId×AV×Ty)
 |
  .iface t v=>match G.at t with
  |
   some td=>match lkM name td.ms with
   |
    some m=>match m.st with
    |none=>if v.plain then some (m.f,v,td.ty) else none
    |
     some (s,i,ft)=>match fO G hb s i v,G.at ft with
     |
      some a,some tf=>match wq G hb ft a with
      |some x=>if x.plain then some (m.f,x,tf.ty) else none
      |none=>none
     |_,_=>none
   |none=>none
  |none=>none
 |_=>none
def pU(P:Program)(G:bN)(gl:Ctx)(cr:CR)(ev:Operand→AV)(hb:Nat→Option aO)(c:Call):Option (fF×List Prop):=
 match c.callee with
 |
  .value cf=>match Nf (ev cf) with
  |
   some (fn,fl,cl)=>
   match mo (swp cr.al) hb (fl.map (fun x=>(x,Ty.unit))++(c.args.toList.zip c.argTypes.toList).map (uf G ev)++cl.map (fun x=>(x,Ty.unit))),jf (swp cr.al) hb cr.ps,cr.r.eU (cr.al++cr.ns) with
   |some (L,lent),some ins,some r'=>if Nat.beq c.args.toList.length c.argTypes.toList.length&&Bi cr lent then
    some (⟨r',mz (cr.al++cr.ns) cr.out (cr.ps++cr.ns),cr.ns.map (·.2),[]⟩,[LB P gl fn L (aS (List.replicate cr.m none) ins) cr.fin (cY cr.m cr.out)]) else none
   |_,_,_=>none
  |_=>none
 |
  .invoke rv name=>match IB G hb name (ev rv) with
  |
   some (f,x,xt)=>
   match mo (swp cr.al) hb ((x,xt)::(c.args.toList.zip c.argTypes.toList).map (uf G ev)),jf (swp cr.al) hb cr.ps,cr.r.eU (cr.al++cr.ns) with
   |some (L,lent),some ins,some r'=>if Nat.beq c.args.toList.length c.argTypes.toList.length&&Bi cr lent then
    some (⟨r',mz (cr.al++cr.ns) cr.out (cr.ps++cr.ns),cr.ns.map (·.2),[]⟩,[LB P gl (.func f) L (aS (List.replicate cr.m none) ins) cr.fin (cY cr.m cr.out)]) else none
   |_,_,_=>none
  |_=>none
 |_=>none
def Env.to(E:Env)(ps:List (Nat×Nat))(S:Nat→Prop):Env where
 g:=fun i=>match oA ps i with|some b=>E.g b|none=>none
 sv:=fun i=>match oA ps i with|some b=>E.sv b|none=>undef
 bt:=fun i=>match oA ps i with|some b=>E.bt b|none=>.unit
 S:=S
 P:=fun i=>match oA ps i with|some b=>E.P b|none=>fun _=>False
def Env.back(E E1:Env)(sns sall:List (Nat×Nat))(S:Nat→Prop):Env where
 g:=fun b=>match oA sns b with|some i=>E1.g i|none=>E.g b
 sv:=fun b=>match oA sns b with|some i=>E1.sv i|none=>E.sv b
 bt:=fun b=>match oA sns b with|some i=>E1.bt i|none=>E.bt b
 S:=S
 P:=fun b=>match oA sall b with|some i=>E1.P i|none=>E.P b
theorem xC{l:List (Nat×Nat)}{a:Nat}(h:a∉l.map (·.1)):oA l a=none:=by
 cases hl:oA l a with
 |none=>rfl
 |some b=>exact absurd (List.mem_map.2 ⟨(a,b),rA hl,rfl⟩) h
section
variable{P:Program} {gl:Ctx} {σ:St} {E:Env} {a:Act} {w:World} {hb:Nat→Option aO} {cr:CR} {lent:List Nat}
theorem vn(h:bQ gl σ E a w)(hB:HB hb σ.hp)(hlent:∀b∈lent,∃k,hb b=some k){ins:List (Nat×Option aO)}(j0:jf (swp cr.al) hb cr.ps=some ins)(fT:Bi cr lent=true):
 (∀b c,oA (swp cr.al) b=some c→(E.to cr.al (E.cH lent).S).g c=E.g b∧(E.to cr.al (E.cH lent).S).sv c=E.sv b∧(E.to cr.al (E.cH lent).S).bt c=E.bt b)∧
 HW gl (E.to cr.al (E.cH lent).S) w (aS (List.replicate cr.m none) ins):=by
 simp only[Bi,bj] at fT
 obtain⟨⟨⟨⟨⟨⟨⟨o1,o2⟩,o3⟩,o4⟩,o5⟩,o6⟩,o7⟩,o8⟩:=fT
 have n1:=fZ o1
 have n2:=fZ o2
 rw[gi] at n2
 have n2':=(List.nodup_append.1 n2).1
 have at0:∀b c,oA (swp cr.al) b=some c→(E.to cr.al (E.cH lent).S).g c=E.g b∧(E.to cr.al (E.cH lent).S).sv c=E.sv b∧(E.to cr.al (E.cH lent).S).bt c=E.bt b:=by
  grind [eJ,ki,rA,Env.to]
 refine⟨at0,?_⟩
 have kp:bE E w (E.to cr.al (E.cH lent).S) w:=⟨fun _ _=>rfl,fun g hg=>Or.inl hg⟩
 have rep:∀(b:Nat)(k:aO),(List.replicate cr.m (none:Option aO))[b]? ≠some (some k):=by
  grind
 have get:∀(i:Nat)(k:aO),(aS (List.replicate cr.m none) ins)[i]? =some (some k)→∃b k0,(i,b)∈cr.ps∧hb b=some k0∧k0.eU (swp cr.al)=some k:=by
  intro i k hk
  rcases fu hk with h1|⟨_,h2⟩
  ·exact pT j0 h1
  grind
 have gat:∀i b,(i,b)∈cr.ps→(E.to cr.al (E.cH lent).S).g i=E.g b∧(E.to cr.al (E.cH lent).S).sv i=E.sv b∧(E.to cr.al (E.cH lent).S).bt i=E.bt b:=by
  intro i b hib
  have:=eJ n1 (CR.sub hib)
  simp[Env.to,this]
 have hasAt:∀i b,(i,b)∈cr.ps→∀g,(E.to cr.al (E.cH lent).S).has i g↔E.has b g:=by
  intro i b hib g
  have:=eJ n1 (CR.sub hib)
  simp[Env.has,Env.to,this]
 refine⟨?_,?_,?_,?_,?_,?_⟩
 ·intro i k hk
  obtain⟨b,k0,h1,h2,h3⟩:=get i k hk
  exact RB.eU ⟨at0,kp.S⟩ (gat i b h1) (fun _ g hp=>by have:=eJ n1 (CR.sub h1);simpa[Env.to,this] using hp) h3 (h.hw.cQ b k0 (hB b k0 h2))
 ·intro i i' k k' g hi hi' g1 g2
  obtain⟨b,k0,h1,h2,h3⟩:=get i k hi
  obtain⟨b',k0',h1',h2',h3'⟩:=get i' k' hi'
  have e:=h.hw.ew b b' k0 k0' g (hB _ _ h2) (hB _ _ h2') ((hasAt i b h1 g).1 g1) ((hasAt i' b' h1' g).1 g2)
  grind [eJ,swp,ki,CR.sub]
 ·intro i k g hi g1 hs
  obtain⟨b,k0,h1,h2,h3⟩:=get i k hi
  have g1:=(hasAt i b h1 g).1 g1
  rcases hs with hs|⟨c,hc,hg⟩
  ·exact h.hw.dC b k0 g (hB _ _ h2) g1 hs
  ·obtain⟨k1,hk1⟩:=hlent c hc
   have e:=h.hw.ew c b k1 k0 g (hB _ _ hk1) (hB _ _ h2) (Or.inl hg) g1
   subst e
   exact Ei o6 c hc (List.mem_map.2 ⟨(i,c),h1,rfl⟩)
 ·rintro g (hg|⟨b,hb',e⟩)
  ·exact h.hw.slt g hg
  ·obtain⟨k,hk⟩:=hlent b hb'
   exact bx.below h.hw ⟨b,k,hB b k hk,Or.inl e⟩
 ·exact h.hw.gJ kp
 ·intro i k g hi g1
  obtain⟨b,k0,h1,h2,h3⟩:=get i k hi
  exact h.hw.below (hB _ _ h2) ((hasAt i b h1 g).1 (Or.inr g1))
theorem lb(h:bQ gl σ E a w)(hB:HB hb σ.hp)(_hlent:∀b∈lent,∃k,hb b=some k){ins:List (Nat×Option aO)}(j0:jf (swp cr.al) hb cr.ps=some ins)(fT:Bi cr lent=true)(hfr:∀b∈cr.ns.map (·.2),σ.fresh b)
 {E1:Env} {w1:World} (hW:HW gl E1 w1 (cY cr.m cr.out)) (hX:Ext gl.md (bx (aS (List.replicate cr.m none) ins) (E.to cr.al (E.cH lent).S)) (E.to cr.al (E.cH lent).S) w (bx (cY cr.m cr.out) E1) E1 w1)
 {v:Value} {r':AV} (hr':cr.r.eU (cr.al++cr.ns)=some r') (hR:RV E1 w1 cr.r v):
 ∃E',bQ gl {σ with hp:=aS σ.hp (mz (cr.al++cr.ns) cr.out (cr.ps++cr.ns))} E' a w1∧RV E' w1 r' v∧Ext gl.md (bx σ.hp E) E w (bx (aS σ.hp (mz (cr.al++cr.ns) cr.out (cr.ps++cr.ns))) E') E' w1:=by
 have hok0:=fT
 simp only[Bi,bj] at fT
 obtain⟨⟨⟨⟨⟨⟨⟨o1,o2⟩,o3⟩,o4⟩,o5⟩,o6⟩,o7⟩,o8⟩:=fT
 have n1:=fZ o1
 have n2:=fZ o2
 rw[gi] at n2
 have n2a:=(List.nodup_append.1 n2).1
 have n2b:=(List.nodup_append.1 n2).2.1
 have n4:=fZ o4
 have nall0:((swp (cr.al++cr.ns)).map (·.1)).Nodup:=by
  grind [swp]
 have nall:((swp (cr.ps++cr.ns)).map (·.1)).Nodup:=
  List.Nodup.sublist (List.Sublist.map _ (List.Sublist.map _ (List.Sublist.append cr.Yr (List.Sublist.refl _)))) nall0
 have uniq:∀i j b,(i,b)∈cr.ps++cr.ns→(j,b)∈cr.ps++cr.ns→i=j:=by
  intro i j b h1 h2
  have q1:=eJ nall (ki.2 h1)
  have q2:=eJ nall (ki.2 h2)
  grind
 have disj:∀b,b∈cr.al.map (·.2)→b∉cr.ns.map (·.2):=fun b h1 h2=>(List.nodup_append.1 n2).2.2 b h1 b h2 rfl
 let S':Nat→Prop:=if lent.isEmpty then E1.S else E.S
 let E':Env:=E.back E1 (swp cr.ns) (swp (cr.ps++cr.ns)) S'
 have hS1:lent= []→S'=E1.S:=fun e=>by grind
 have hS2:lent≠[]→S'=E.S:=fun e=>by
  grind
 have inOwn:∀g,bx (aS (List.replicate cr.m none) ins) (E.to cr.al (E.cH lent).S) g→∃i b k,(i,b)∈cr.ps∧hb b=some k∧E.has b g:=by
  rintro g ⟨i,k,hik,hg⟩
  rcases fu hik with q1|⟨_,q2⟩
  ·obtain⟨b,k0,z1,z2,z3⟩:=pT j0 q1
   refine⟨i,b,k0,z1,z2,?_⟩
   have:=eJ n1 (CR.sub z1)
   simpa[Env.has,Env.to,this] using hg
  grind
 have inOwn':∀g,bx (aS (List.replicate cr.m none) ins) (E.to cr.al (E.cH lent).S) g→bx σ.hp E g:=fun g hg=>by
  obtain⟨i,b,k,_,z2,z3⟩:=inOwn g hg
  exact⟨b,k,hB b k z2,z3⟩
 have heapS:∀g,E.S g→w1.heap[g]? =w.heap[g]? :=fun g hg=>hX.kept g (h.hw.slt g hg) (fun ho=>by
  obtain⟨i,b,k,_,z2,z3⟩:=inOwn g ho
  exact h.hw.dC b k g (hB b k z2) z3 hg)
 have SS':∀g,E.S g→S' g:=fun g hg=>by
  by_cases hl:lent= []
  ·rw[hS1 hl];exact hX.sle g (Or.inl hg)
  grind
 have S'1:∀g,S' g→E1.S g:=fun g hg=>by
  by_cases hl:lent= []
  ·grind
  ·rw[hS2 hl] at hg;exact hX.sle g (Or.inl hg)
 have kp:bE E w E' w1:=⟨heapS,SS'⟩
 have gns:∀i b,(i,b)∈cr.ns→E'.g b=E1.g i∧E'.sv b=E1.sv i∧E'.bt b=E1.bt i:=fun i b hm=>by
  have:=eJ (l:=swp cr.ns) (by grind [swp]) (ki.2 hm)
  simp[E',Env.back,this]
 have gold:∀b,b∉cr.ns.map (·.2)→E'.g b=E.g b∧E'.sv b=E.sv b∧E'.bt b=E.bt b:=fun b hm=>by
  grind [swp,xC,Env.back]
 have gps:∀i b,(i,b)∈cr.al→E'.g b=E1.g i∧E'.sv b=E1.sv i∧E'.bt b=E1.bt i:=fun i b hm=>by
  have hi:i<16:=rC o3 i (List.mem_map.2 ⟨(i,b),hm,rfl⟩)
  obtain⟨p1,p2,p3⟩:=hX.Jt i hi
  obtain⟨q1,q2,q3⟩:=gold b (disj b (List.mem_map.2 ⟨(i,b),hm,rfl⟩))
  have:=eJ n1 hm
  grind [Env.to]
 have gall0:∀i b,(i,b)∈cr.al++cr.ns→E'.g b=E1.g i∧E'.sv b=E1.sv i∧E'.bt b=E1.bt i:=fun i b hm=>(List.mem_append.1 hm).elim (gps i b) (gns i b)
 have gall:∀i b,(i,b)∈cr.ps++cr.ns→E'.g b=E1.g i∧E'.sv b=E1.sv i∧E'.bt b=E1.bt i:=fun i b hm=>gall0 i b ((List.mem_append.1 hm).elim (fun h=>List.mem_append.2 (Or.inl (CR.sub h))) (fun h=>List.mem_append.2 (Or.inr h)))
 have hasAll:∀i b,(i,b)∈cr.ps++cr.ns→∀g,E'.has b g↔E1.has i g:=fun i b hm g=>by
  have:=eJ nall (ki.2 hm)
  unfold Env.has
  rw[(gall i b hm).1]
  simp[E',Env.back,this]
 have hasOld:∀b,b∉cr.ns.map (·.2)→b∉cr.ps.map (·.2)→∀g,E'.has b g↔E.has b g:=fun b h1 h2 g=>by
  have:oA (swp (cr.ps++cr.ns)) b=none:=xC (by
   simp only[swp,iw,Function.comp_def,gi,jb,not_or]
   grind)
  unfold Env.has
  rw[(gold b h1).1]
  simp[E',Env.back,this]
 have rn:Rn (cr.al++cr.ns) {E1 with S:=S'} E':=⟨fun i b hl=>gall0 i b (rA hl),fun g hg=>hg⟩
 have zQ:∀i k,(i,k)∈cr.out→RB {E1 with S:=S'} w1 i k:=fun i k hm=>by
  have hlt:i<(List.replicate cr.m (none:Option aO)).length:=by rw[tG];exact rC o5 i (List.mem_map.2 ⟨(i,k),hm,rfl⟩)
  have hb1:=hW.cQ i k (Bh (m:=cr.m) n4 hm hlt)
  by_cases hl:lent= []
  ·rw[hS1 hl];exact hb1
  ·have hf:rD cr.out=true:=by
    grind
   exact RB.flat (xB hf i k hm) hb1
 have outMem:∀c k,(c,some k)∈mz (cr.al++cr.ns) cr.out (cr.ps++cr.ns)→∃i k0,(i,c)∈cr.ps++cr.ns∧(i,k0)∈cr.out∧k0.eU (cr.al++cr.ns)=some k:=fun c k hm=>by
  obtain⟨i,z1,z2⟩:=Eg hm
  unfold Nc at z2
  split at z2
  ·rename_i k0 hk0;exact⟨i,k0,z1,Iz hk0,z2⟩
  grind
 have outAt1:∀i k,(i,k)∈cr.out→(cY cr.m cr.out)[i]? =some (some k):=fun i k hm=>
  Bh (m:=cr.m) n4 hm (by rw[tG];exact rC o5 i (List.mem_map.2 ⟨(i,k),hm,rfl⟩))
 have oldNot:∀c,c∉wrote (mz (cr.al++cr.ns) cr.out (cr.ps++cr.ns))→c∉cr.ns.map (·.2)∧c∉cr.ps.map (·.2):=fun c hc=>by
  grind [xA]
 have notIn:∀c k g,σ.hp[c]? =some (some k)→c∉cr.ps.map (·.2)→E.has c g→¬bx (aS (List.replicate cr.m none) ins) (E.to cr.al (E.cH lent).S) g:=fun c k g hc hn hg ho=>by
  obtain⟨i,b,k',z1,z2,z3⟩:=inOwn g ho
  have e:=h.hw.ew c b k k' g hc (hB b k' z2) hg z3
  grind
 have on':∀ids:List Nat,(∀b∈ids,b∈σ.ids)→E.on E' ids:=fun ids hids b hb'=>gold b (fun hm=>(hfr b hm).1 (hids b hb'))
 have hwn:HW gl E' w1 (aS σ.hp (mz (cr.al++cr.ns) cr.out (cr.ps++cr.ns))):=by
  refine⟨?_,?_,?_,?_,h.hw.gJ kp,?_⟩
  ·intro c k hc
   rcases fu hc with h1|⟨h1,h2⟩
   ·obtain⟨i,k0,z1,z2,z3⟩:=outMem c k h1
    exact RB.eU rn (gall i c z1) (fun _ g hp=>by have:=eJ nall (ki.2 z1);simpa[E',Env.back,this] using hp) z3 (zQ i k0 z2)
   ·obtain⟨q1,q2⟩:=oldNot c h1
    refine RB.mono kp ?_ ?_ (fun _ g hp=>by
     have:oA (swp (cr.ps++cr.ns)) c=none:=xC (by
      simp only[swp,iw,Function.comp_def,gi,jb,not_or]
      grind)
     simpa[E',Env.back,this] using hp) (h.hw.cQ c k h2)
    ·intro b hb'
     rcases List.mem_cons.1 hb' with e|hb'
     ·grind
     ·exact gold b (fun hm=>(hfr b hm).1 (St.AB h2 b hb'))
    ·intro g hg
     exact hX.kept g (bx.below h.hw ⟨c,k,h2,hg⟩) (notIn c k g h2 q2 hg)
  ·intro c c' k k' g hc hc' g1 g2
   rcases fu hc with h1|⟨h1,h2⟩<;>rcases fu hc' with h1'|⟨h1',h2'⟩
   ·obtain⟨i,k0,z1,z2,z3⟩:=outMem c k h1
    obtain⟨i',k0',z1',z2',z3'⟩:=outMem c' k' h1'
    have e:=hW.ew i i' k0 k0' g (outAt1 i k0 z2) (outAt1 i' k0' z2') ((hasAll i c z1 g).1 g1) ((hasAll i' c' z1' g).1 g2)
    subst e
    have o7':((cr.ps++cr.ns).map (·.1)).Nodup:=List.Nodup.sublist (List.Sublist.map _ (List.Sublist.append cr.Yr (List.Sublist.refl _))) (fZ o7)
    have q1:=eJ o7' z1
    have q2:=eJ o7' z1'
    grind
   ·obtain⟨i,k0,z1,z2,z3⟩:=outMem c k h1
    obtain⟨q1,q2⟩:=oldNot c' h1'
    have g1:=(hasAll i c z1 g).1 g1
    have g2:=(hasOld c' q1 q2 g).1 g2
    rcases hX.own g ⟨i,k0,outAt1 i k0 z2,g1⟩ with y|y
    ·grind
    ·have:=bx.below h.hw ⟨c',k',h2',g2⟩;omega
   ·obtain⟨i,k0,z1,z2,z3⟩:=outMem c' k' h1'
    obtain⟨q1,q2⟩:=oldNot c h1
    have g2:=(hasAll i c' z1 g).1 g2
    have g1:=(hasOld c q1 q2 g).1 g1
    rcases hX.own g ⟨i,k0,outAt1 i k0 z2,g2⟩ with y|y
    ·grind
    ·have:=bx.below h.hw ⟨c,k,h2,g1⟩;omega
   ·exact h.hw.ew c c' k k' g h2 h2' ((hasOld c (oldNot c h1).1 (oldNot c h1).2 g).1 g1) ((hasOld c' (oldNot c' h1').1 (oldNot c' h1').2 g).1 g2)
  ·intro c k g hc g1 hs
   rcases fu hc with h1|⟨h1,h2⟩
   ·obtain⟨i,k0,z1,z2,z3⟩:=outMem c k h1
    exact hW.dC i k0 g (outAt1 i k0 z2) ((hasAll i c z1 g).1 g1) (S'1 g hs)
   ·obtain⟨q1,q2⟩:=oldNot c h1
    have g1:=(hasOld c q1 q2 g).1 g1
    by_cases hl:lent= []
    ·have hs':E1.S g:=S'1 g hs
     rcases hX.mQ g hs' with y|y|y
     ·rcases y with y|⟨b,hb',_⟩
      ·exact h.hw.dC c k g h2 g1 y
      grind
     ·grind
     ·have:=bx.below h.hw ⟨c,k,h2,g1⟩;omega
    ·have hs':E.S g:=by have:=hs;change S' g at this;grind
     exact h.hw.dC c k g h2 g1 hs'
  ·intro g hg;exact hW.slt g (S'1 g hg)
  ·intro c k g hc g1
   rcases fu hc with h1|⟨h1,h2⟩
   ·obtain⟨i,k0,z1,z2,z3⟩:=outMem c k h1
    exact hW.below (outAt1 i k0 z2) ((hasAll i c z1 g).1 (Or.inr g1))
   ·obtain⟨q1,q2⟩:=oldNot c h1
    exact mK (h.hw.below h2 ((hasOld c q1 q2 g).1 (Or.inr g1))) hX.size
 refine⟨E',h.carry kp (on' _ (fun b hb'=>hb')) hwn,?_,hX.os,hX.tape,hX.output,hX.size,?_,SS',?_,?_,?_⟩
 ·have hR':RV {E1 with S:=S'} w1 cr.r v:=by
   by_cases hl:lent= []
   ·rw[hS1 hl];exact hR
   ·have hf:cr.r.eE=true:=by
     grind
    exact RV.eE hf hR
  exact RV.eU rn hr' hR'
 ·intro g hg hn
  exact hX.kept g hg (fun ho=>hn (inOwn' g ho))
 ·intro g hg
  by_cases hl:lent= []
  ·rcases hX.mQ g (S'1 g hg) with y|y|y
   ·rcases y with y|⟨b,hb',_⟩<;>grind
   ·grind
   grind
  ·have hs':E.S g:=by have:=hg;change S' g at this;grind
   grind
 ·rintro g ⟨c,k,hc,hg⟩
  rcases fu hc with h1|⟨h1,h2⟩
  ·obtain⟨i,k0,z1,z2,z3⟩:=outMem c k h1
   have hg:=(hasAll i c z1 g).1 hg
   exact(hX.own g ⟨i,k0,outAt1 i k0 z2,hg⟩).imp (inOwn' g) id
  ·have hg:=(hasOld c (oldNot c h1).1 (oldNot c h1).2 g).1 hg
   exact Or.inl ⟨c,k,h2,hg⟩
 ·intro b hb'
  exact gold b (fun hm=>by have:=(hfr b hm).2.2;omega)
end
theorem sY{G:bN}{t:TypeId}{i:Nat}{x a:AV}(h:fO G hb t i x=some a):(∃b p,a= .ptr b p)∨(∃u y,a= .cd u y)∨∃v,a= .iy v:=by
 unfold fO at h
 have hpt:∀y,(∃u' x',Pc y= .cd u' x')∨∃v',Pc y= .iy v':=fun y=>by cases y<;>simp[Pc]
 split at h
 ·(repeat' split at h)<;>first|(cases h;exact .inl ⟨_,_,rfl⟩)|cases h
 ·(repeat' split at h)<;>first|(cases h;exact .inr (.inl ⟨_,_,rfl⟩))|cases h
 ·(repeat' split at h)<;>first|(cases h;exact .inr (hpt _))|cases h
 ·cases h
theorem Nh{G:bN}(T:bA P G){gl:Ctx}(hw:HW gl E w hp)(hB:HB hb hp){name:String}{a x:AV}{xt:Ty}{f:FuncId}{v:Value}(h:IB G hb name a=some (f,x,xt))(hr:RV E w a v):
 ∃r,RV E w x r∧∀args,(callMethod v name args).run P w=(callFunc f (#[r]++args)).run P w:=by
 unfold IB at h
 split at h
 ·rename_i t u
  split at h
  ·rename_i td htd
   split at h
   ·rename_i m hm
    obtain⟨hm1,hm2⟩:=Ng hm
    obtain⟨ii,r,f',pr,hi,hr1,hr2,hr3,hr4⟩:=T.acX htd hm1
    subst hr3
    rw[hm2] at hr1
    obtain⟨y,e,hy⟩:=RV.atom rfl hr
    simp at e
    subst e
    have hy0:bZ E w u y:=by
     trivial
    have hsz:∃n,P.types.size+Made.depth=n+1:=by
     simp_all[Made.depth]
    obtain⟨n,hn⟩:=hsz
    split at h
    ·rename_i hst
     rw[hst] at hr4
     split at h
     ·cases h
      refine⟨y,RV.eS hy0,fun args=>?_⟩
      have hpath:r.path= #[]:=by
       grind [wi]
      obtain⟨i',d,_,hd,_⟩:=T.info htd
      rw[hpath] at hr4
      simp only[wi,hd] at hr4
      have hrec:(receiverAt t (.val y) pr (if r.path.isEmpty then some ((name.splitOn ".").getLastD name) else none)).run P w= .ok y w:=by
       unfold receiverAt
       cases d<;>cases pr<;>simp[AD] at hr4<;>simp[underlying,hd,Place.get]
      simp_all[callMethod,method,typeInfo,follow]
     grind
    ·rename_i s i ft hst
     rw[hst] at hr4
     split at h
     ·rename_i a tf ha htf
      split at h
      ·rename_i x' hx
       split at h
       ·cases h
        obtain⟨va,q1,q2⟩:=mV T hw hB (RV.eS hy0) ha
        obtain⟨vx,q3,q4⟩:=sA T hw hB q2 hx
        refine⟨vx,q4,fun args=>?_⟩
        obtain⟨st,hpath⟩:∃st,r.path= #[st]:=by
         cases hp:r.path.toList with
         |nil=>rw[hp] at hr4;trivial
         |
          cons st l=>
          cases l with
          |nil=>grind
          |cons _ _=>rw[hp] at hr4;trivial
        rw[hpath] at hr4
        simp only[wi,bj,gZ] at hr4
        obtain⟨⟨⟨⟨⟨p1,p2⟩,p3⟩,p4⟩,p5⟩,p6⟩:=hr4
        have p3:=bM p3
        have p4:=bM p4
        subst p1
        split at p5
        ·rename_i fs d hs hd
         simp only[bj,gZ] at p5
         obtain⟨p5,p7⟩:=p5
         split at p7
         ·rename_i fl hfl
          have p7:=bM p7
          have hfa:∃ad b,y= .pointer (some ad)∧va= .pointer (some b)∧(fieldPlace ad fl).run P w= .ok b w:=by
           have hyp:∃ad,y= .pointer (some ad):=by
            unfold fO at ha
            split at ha
            ·obtain⟨g,_,e,_⟩:=RV.atom rfl (RV.eS hy0);grind
            ·obtain⟨b',o',cs,e,_⟩:=RV.atom rfl (RV.eS hy0);grind
            ·obtain⟨b',o',cs,e,_⟩:=RV.atom rfl (RV.eS hy0);grind
            grind
           obtain⟨ad,rfl⟩:=hyp
           have hvp:∃b,va= .pointer (some b):=by
            have ht:=sY ha
            rcases ht with⟨b',p',rfl⟩|⟨u',x',rfl⟩|⟨v',rfl⟩
            ·obtain⟨g,_,e,_⟩:=RV.atom rfl q2;grind
            ·obtain⟨b'',o',cs,e,_⟩:=RV.atom rfl q2;grind
            ·obtain⟨b'',o',cs,e,_⟩:=RV.atom rfl q2;grind
           obtain⟨b,rfl⟩:=hvp
           refine⟨ad,b,rfl,rfl,?_⟩
           simp only[Instr.fieldAt,underlying,Sem.run_bind,run_program,Result.andThen_ok,hs,Sem.run_pure,hfl,Instr.sureAddr] at q1
           cases hfp:(fieldPlace ad fl).run P w<;>simp_all
          obtain⟨ad,b,rfl,rfl,hfp⟩:=hfa
          have hld:(loadVar ft b).run P w= .ok vx w:=by trivial
          have hrec:∀wr,(receiverAt ft (.var b) false wr).run P w= .ok vx w:=by
           intro wr
           unfold receiverAt
           cases d<;>simp[AD] at p5<;>simp[underlying,hd,Place.get,hld]
          have hfol:(follow [st] t (.val (.pointer (some ad)))).run P w= .ok (ft,.var b) w:=by
           simp only[follow,underlying,Sem.run_bind,run_program,Result.andThen_ok,p3,hs,Sem.run_pure,p4,hfl,p2,cj,Place.get,asAddr,hfp,p7]
          simp_all[callMethod,method,typeInfo]
         grind
        grind
       grind
      grind
     grind
   grind
  grind
 grind
variable{ob:List Prop}
theorem xD{G:bN}(T:bA P G){gl:Ctx}{a:Act}(h:bQ gl σ E a w){o:Oper}{c:Call}(hop:o.op= .call c)(hB:HB hb σ.hp){r:fF}
 (hev:∀x∈o.op.operands.toList,RV E w (ev x) (a.eval x))  (he:pU P G gl cr ev hb c=some (r,ob)) (hvc:∀p∈ob,p) (hfr:∀b∈r.fr,σ.fresh b) {K:Act→World→Prop} {Q:Exit→Act→World→Prop}
 (hK:cr.kC=false→∀E' v w',bQ gl {σ with hp:=aS σ.hp r.hw} E' a w'→RV E' w' r.v v→Ext gl.md (bx σ.hp E) E w (bx (aS σ.hp r.hw) E') E' w'→K (a.put o.dst v) w')
 (hQ:cr.kC=true→∀E' v w',bQ gl {σ with hp:=aS σ.hp r.hw} E' a w'→RV E' w' r.v v→Ext gl.md (bx σ.hp E) E w (bx (aS σ.hp r.hw) E') E' w'→Q (.panic [{v:=v,recovered:=false}]) a w'):o.wpIn (Wd gl) 0 P a w K Q:=by
 unfold pU at he
 split at he
 ·rename_i cf hcf
  split at he
  ·rename_i fn fl cl hfv
   split at he
   ·rename_i L lent ins r' hL j0 hr'
    split at he
    ·rename_i hcond
     cases he
     simp only[bj] at hcond
     obtain⟨hlen,fT⟩:=hcond
     have hfc:=hvc _ (cm ..)
     have hopd:o.op.operands= #[cf]++c.args:=by grind [Op.operands,Call.operands]
     have hcfv:=hev cf (by grind)
     obtain⟨f',c',e,r1,r2,hfn0⟩:=P7 hfv hcfv
     have hargs:lz E w (c.args.toList.map ev) (c.args.toList.map a.eval):=lz.map _ (fun x hx=>hev x (by grind))
     have am7:=lz.append (lz.append r1 hargs) r2
     have hmap:(fl.map (fun x=>(x,Ty.unit))++(c.args.toList.zip c.argTypes.toList).map (uf G ev)++cl.map (fun x=>(x,Ty.unit))).map (·.1)=fl++c.args.toList.map ev++cl:=by
      simp only[gi,iw]
      have e1:∀l:List AV,l.map ((fun x:AV×Ty=>x.1)∘fun x=>(x,Ty.unit))=l:=by intro l;induction l<;>simp_all
      have e2:∀(l:List Operand)(m:List TypeId),l.length=m.length→(l.zip m).map ((fun x:AV×Ty=>x.1)∘uf G ev)=l.map ev:=by
       intro l
       induction l with
       |nil=>intro m _;rfl
       |
        cons x l ih=>
        intro m hm
        cases m with
        |nil=>grind
        |
         cons y m=>
         simp only[List.zip_cons_cons,dA]
         rw[ih m (by grind)];rfl
      grind [bM]
     have hlent:=lV hL
     obtain⟨hφ,hw1⟩:=vn h hB hlent j0 fT
     have hv:=nD h.hw hB hφ hL (fun g hg=>hg) (by rw[hmap];omega)
     unfold Oper.wpIn
     refine⟨fun _ _=>trivial,?_⟩
     rw[Oper.semAt_eq _ _ _ (by grind)]
     have post:∀(ed:Ending)(w':World),(∃E',AI E' w' cr.fin ed∧HW gl E' w' (cY cr.m cr.out)∧Ext gl.md (bx (aS (List.replicate cr.m none) ins) (E.to cr.al (E.cH lent).S)) (E.to cr.al (E.cH lent).S) w (bx (cY cr.m cr.out) E') E' w')→
      (match ed,w' with
       | .returned v,w''=>K (a.put o.dst v) w''
       | .panicked chain,w''=>Q (.panic chain) a w''
       | .outgrown,_=>LetsOut Q):=by
      rintro ed w' ⟨E',hR,hW',hX⟩
      cases ed with
      |
       returned v=>
       cases am4:cr.kC with
       |true=>simp only[CR.fin,am4,cj] at hR;trivial
       |
        false=>
        simp only[CR.fin,am4,eM,dB] at hR
        obtain⟨E2,g1,g2,g3⟩:=lb h hB hlent j0 fT hfr hW' hX hr' hR
        grind
      |
       panicked ch=>
       cases am4:cr.kC with
       |
        true=>
        simp only[CR.fin,am4,cj] at hR
        obtain⟨u,e,hR⟩:=hR
        obtain⟨E2,g1,g2,g3⟩:=lb h hB hlent j0 fT hfr hW' hX hr' (RV.eS hR)
        grind
       |false=>simp only[CR.fin,am4,eM,dB] at hR;trivial
      |outgrown=>cases am4:cr.kC<;>simp only[CR.fin,am4,cj,eM,dB] at hR<;>exact hR.elim
     cases fn with
     |
      func f=>
      obtain⟨amV,hfn⟩:=hfc
      have amQ:(execOp a.eval o).run P w= .ok (.enter f (f'.toList++c.args.toList.map a.eval++c'.toList).toArray) w:=by
       have:=amV (f'++c.args.map a.eval++c') w
       simp only[execOp,hop,resolve,hcf,e,Sem.run_bind,Deferred.ofValue,Sem.run_pure,Result.andThen_ok,invoke]
       rw[this]
       congr 2
       grind
      rw[amQ]
      simp only[Oper.uponIn]
      refine⟨fun h=>(by cases h),?_⟩
      have h1:CallsIn Fence.wide 0 P f _ w _:=callsIn_wide.2 (hfn _ w _ hv hw1)
      exact CallsIn.mono (F:=Wd gl) h1 post
     |
      yield l=>
      rcases hfn0 with⟨g,hg⟩|⟨_,e1,e2⟩
      ·cases hg
      subst e1;subst e2
      have hn:∀{vs:List Value},lz E w [] vs→vs= []:=by intro vs h;cases vs with
       |nil=>rfl
       |cons _ _=>trivial
      have hf':f'= #[]:=by grind
      have hc':c'= #[]:=by grind
      subst hf';subst hc'
      obtain⟨fn,tmps,assign,body,hy,hr⟩:=hfc _ w _ hv hw1
      have amQ:(execOp a.eval o).run P w= .ok (.round l fn tmps assign body) w:=by
       simp only[execOp,hop,resolve,hcf,e,Sem.run_bind,Deferred.ofValue,Sem.run_pure,Result.andThen_ok,invoke]
       rw[←hy]
       congr 2
       apply mb
       simp
      rw[amQ]
      simp only[Oper.uponIn]
      refine⟨fun h=>(by cases h),?_⟩
      exact RoundIn.mono (F:=Wd gl) hr post
     |_=>grind
    grind
   grind
  grind
 ·rename_i rv name hcf
  split at he
  ·rename_i f x xt hfv
   split at he
   ·rename_i L lent ins r' hL j0 hr'
    split at he
    ·rename_i hcond
     cases he
     simp only[bj] at hcond
     obtain⟨hlen,fT⟩:=hcond
     have hfc:=hvc _ (cm ..)
     have hopd:o.op.operands= #[rv]++c.args:=by grind [Op.operands,Call.operands]
     obtain⟨rc,hrc,hcm⟩:=Nh T h.hw hB hfv (hev rv (by grind))
     have hargs:lz E w (c.args.toList.map ev) (c.args.toList.map a.eval):=lz.map _ (fun x hx=>hev x (by grind))
     have am7:lz E w (x::c.args.toList.map ev) (rc::c.args.toList.map a.eval):=⟨hrc,hargs⟩
     have hmap:((x,xt)::(c.args.toList.zip c.argTypes.toList).map (uf G ev)).map (·.1)=x::c.args.toList.map ev:=by
      simp only[dA,iw]
      have e2:∀(l:List Operand)(m:List TypeId),l.length=m.length→(l.zip m).map ((fun x:AV×Ty=>x.1)∘uf G ev)=l.map ev:=by
       intro l
       induction l with
       |nil=>intro m _;rfl
       |
        cons x l ih=>
        intro m hm
        cases m with
        |nil=>grind
        |
         cons y m=>
         simp only[List.zip_cons_cons,dA]
         rw[ih m (by grind)];rfl
      rw[e2 _ _ (bM hlen)]
     have hlent:=lV hL
     obtain⟨hφ,hw1⟩:=vn h hB hlent j0 fT
     have hv:=nD h.hw hB hφ hL (fun g hg=>hg) (by rw[hmap];omega)
     unfold Oper.wpIn
     refine⟨fun _ _=>trivial,?_⟩
     rw[Oper.semAt_eq _ _ _ (by grind)]
     have post:∀(ed:Ending)(w':World),(∃E',AI E' w' cr.fin ed∧HW gl E' w' (cY cr.m cr.out)∧Ext gl.md (bx (aS (List.replicate cr.m none) ins) (E.to cr.al (E.cH lent).S)) (E.to cr.al (E.cH lent).S) w (bx (cY cr.m cr.out) E') E' w')→
      (match ed,w' with
       | .returned v,w''=>K (a.put o.dst v) w''
       | .panicked chain,w''=>Q (.panic chain) a w''
       | .outgrown,_=>LetsOut Q):=by
      rintro ed w' ⟨E',hR,hW',hX⟩
      cases ed with
      |
       returned v=>
       cases am4:cr.kC with
       |true=>simp only[CR.fin,am4,cj] at hR;trivial
       |
        false=>
        simp only[CR.fin,am4,eM,dB] at hR
        obtain⟨E2,g1,g2,g3⟩:=lb h hB hlent j0 fT hfr hW' hX hr' hR
        grind
      |
       panicked ch=>
       cases am4:cr.kC with
       |
        true=>
        simp only[CR.fin,am4,cj] at hR
        obtain⟨u,e,hR⟩:=hR
        obtain⟨E2,g1,g2,g3⟩:=lb h hB hlent j0 fT hfr hW' hX hr' (RV.eS hR)
        grind
       |false=>simp only[CR.fin,am4,eM,dB] at hR;trivial
      |outgrown=>cases am4:cr.kC<;>simp only[CR.fin,am4,cj,eM,dB] at hR<;>exact hR.elim
     obtain⟨amV,hfn⟩:=hfc
     have amQ:(execOp a.eval o).run P w= .ok (.enter f (rc::c.args.toList.map a.eval).toArray) w:=by
      have hq:=hcm (c.args.map a.eval)
      rw[amV] at hq
      simp only[execOp,hop,resolve,hcf,Sem.run_bind,Sem.run_pure,Result.andThen_ok,invoke]
      have e0:(#[a.eval rv]++c.args.map a.eval)[0]? =some (a.eval rv):=by grind
      have e1:(#[a.eval rv]++c.args.map a.eval).extract 1 (#[a.eval rv]++c.args.map a.eval).size=c.args.map a.eval:=by
       apply mb;simp
       grind
      rw[e0]
      show(callMethod (a.eval rv) name ((#[a.eval rv]++c.args.map a.eval).extract 1 (#[a.eval rv]++c.args.map a.eval).size)).run P w=_
      rw[e1,hq]
      congr 2
      apply mb
      simp
     rw[amQ]
     simp only[Oper.uponIn]
     refine⟨fun h=>(by cases h),?_⟩
     have h1:CallsIn Fence.wide 0 P f _ w _:=callsIn_wide.2 (hfn _ w _ hv hw1)
     exact CallsIn.mono (F:=Wd gl) h1 post
    grind
   grind
  grind
 grind
theorem J0{G:bN}(T:bA P G){gl:Ctx}{a:Act}(h:bQ gl σ E a w){o:Oper}{c:Call}(hop:o.op= .call c)(hB:HB hb σ.hp)(am4:cr.kC=false){r:fF}
 (hev:∀x∈o.op.operands.toList,RV E w (ev x) (a.eval x))  (he:pU P G gl cr ev hb c=some (r,ob)) (hvc:∀p∈ob,p) (hfr:∀b∈r.fr,σ.fresh b):wI P gl σ E a w o r:=fun _K _Q hK=>
 xD T h hop hB hev he hvc hfr (fun _=>hK) (fun e=>by grind)
def vo(G:bN)(t:TypeId)(x i:AV):Option (AV×List VC):=
 match G.at t with
 |
  some td=>match td.ty,x,i with
  | .fns m,.val (.fns m') xs,.val (.int _) n=>if Nat.beq m m' then some (Jr (List.getD xs (Int.toNat n) none),[vc ((0:Int)≤n),vc (@LT.lt Int _ n (m:Int))]) else none
  | .arr m u,.val (.arr m' u') xs,.val (.int _) n=>if Nat.beq m m'&&Ty.same u u' then some (.val u' (List.getD xs (Int.toNat n) u'.aD),[vc ((0:Int)≤n),vc (@LT.lt Int _ n (m:Int))]) else none
  |_,_,_=>none
 |none=>none
theorem P8(o:Option Nat):RV E w (Jr o) (EW o):=by
 cases o with
 |none=>exact RV.eS (Or.inr ⟨rfl,rfl⟩)
 |some f=>exact RV.eS (Or.inr ⟨rfl, #[], #[],rfl,rfl,rfl,rfl,rfl⟩)
theorem Ni{G:bN}(T:bA P G){t:TypeId}(ht:G.at t=some td){cs:Array Value}{off:Nat}{u:AV}(hc:RC E w u ((cs.toList.drop off).take td.ty.size))(hu:u.cp td.ty=true)(hb:off+td.ty.size≤cs.size):
 ∃v,(part t cs off).run P w= .ok v w∧RV E w u v:=by
 have ha:=AV.pw hu
 by_cases amH:td.ty.isAgg=true
 ·refine⟨.agg (cs.extract off (off+td.ty.size)),?_,RV.eS (Or.inl ⟨by grind,_,rfl,?_⟩)⟩
  ·simp[part,T.isAgg ht,T.size ht,amH]
  simp_all
 ·have hagg':td.ty.isAgg=false:=by grind
  have h1:td.ty.size=1:=by cases h:td.ty<;>rw[h] at hagg'<;>simp[Ty.isAgg] at hagg'<;>rfl
  rw[h1] at hc hb
  have hlt:off<cs.size:=by omega
  have e:(cs.toList.drop off).take 1= [cs[off]]:=by
   grind [ma]
  rw[e] at hc
  exact⟨cs[off],by simp[part,T.isAgg ht,hagg',Array.getElem?_eq_getElem hlt],RV.eS (Or.inr ⟨by grind,hc⟩)⟩
theorem Gi{G:bN}(T:bA P G){t:TypeId}{x i r:AV}{vc:List VC}(hx:RV E w x vx)(hi:RV E w i vi)(h:vo G t x i=some (r,vc))(hvc:dD vc):
 ∃v,(Instr.index t vx vi).run P w= .ok v w∧RV E w r v:=by
 unfold vo at h
 split at h
 ·rename_i td ht
  split at h
  ·rename_i m m' xs k n hty
   split at h
   ·rename_i hm
    cases h
    have:=bM hm
    subst this
    obtain⟨q1,q2,_⟩:=hvc
    replace q1:(0:Int)≤_:=q1
    obtain⟨rfl,_⟩:=RV.eG hi
    obtain⟨te,hu,he,hte⟩:=T.S9 ht hty
    rcases RV.jq rfl hx with⟨_,cs,rfl,hr⟩|⟨hh,_⟩
    ·obtain⟨hl,hcs⟩:=hr
     have hl':n.toNat<xs.length:=by omega
     have hsz:=T.size he w
     rw[hte] at hsz
     have hag:=T.isAgg he w
     rw[hte] at hag
     have hc:cs[n.toNat]? =some (EW (List.getD xs n.toNat none)):=by
      rw[←Array.getElem?_toList,hcs,List.getElem?_map,List.getD_eq_getElem?_getD,yP hl']
      rfl
     refine⟨EW (List.getD xs n.toNat none),?_,P8 _⟩
     have hin:(0:Int)≤n∧n<(m:Int):=⟨q1,q2⟩
     simp[Instr.index,asIntOf,run_underlying hu,hin,part,hag,hsz,Ty.size,Ty.isAgg,hc]
    trivial
   grind
  ·rename_i m u m' u' xs k n hty
   split at h
   ·rename_i hm
    cases h
    simp only[bj] at hm
    have e1:=bM hm.1
    have e2:=Ty.aB hm.2
    subst e1;subst e2
    obtain⟨q1,q2,_⟩:=hvc
    replace q1:(0:Int)≤_:=q1
    obtain⟨rfl,_⟩:=RV.eG hi
    obtain⟨te,hu,he,hte⟩:=T.wv ht hty
    rcases RV.jq rfl hx with⟨_,cs,rfl,hr⟩|⟨hh,_⟩
    ·obtain⟨hl,hcs⟩:=hr
     have hl':n.toNat<xs.length:=by omega
     have amX:=bk.get (r:=Rel w E.S u) (n:=u.size) (fun _ _ h=>Rel.len h) u.aD n.toNat hcs hl'
     have hlen:=bk.len (n:=u.size) (fun _ _ h=>Rel.len h) hcs
     have hb:n.toNat*te.ty.size+te.ty.size≤cs.size:=by
      rw[hte,←pv,hlen]
      have:=ji u.size hl'
      grind
     have hsz:=T.size he w
     obtain⟨v,hv,hrv⟩:=Ni (P:=P) T he (E:=E) (w:=w) (cs:=cs) (off:=n.toNat*te.ty.size) (u:=.val u (List.getD xs n.toNat u.aD)) (by rw[hte];trivial) (by rw[hte];exact Ty.cV _) hb
     simp_all[Instr.index,asIntOf,run_underlying]
    trivial
   grind
  grind
 grind
def Bj{α:Type}:Option α→Bool
 |none=>true
 |some _=>false
def Gj:AV→AV→Option (Bool×gn)
 | .hJ,.hJ=>some (true,.iface)
 | .iface _ _,.hJ=>some (false,.iface)
 | .eP,.eP=>some (true,.ptr)
 | .ptr _ _,.eP=>some (false,.ptr)
 | .cd _ _,.eP=>some (false,.ptr)
 | .dX,.dX=>some (true,.map)
 | .mp _,.dX=>some (false,.map)
 | .val (.map _ _) y,.dX=>some (Bj y,.map)
 | .fv,.fv=>some (true,.func)
 | .func _ _ _,.fv=>some (false,.func)
 | .nq c,.dX=>some (c,.map)
 |_,_=>none
def ee:TypeDesc→Option gn
 | .interface _=>some .iface
 | .pointer _=>some .ptr
 | .map _ _=>some .map
 | .func _ _ _=>some .func
 |_=>none
def isConst:Operand→Bool
 | .const _=>true
 |_=>false
def Bk(d:TypeDesc)(k:gn):Bool:=
 match ee d with
 |some k'=>Nat.beq (gn.code k) (gn.code k')
 |none=>false
theorem zS{d:TypeDesc}{k:gn}(h:Bk d k=true):ee d=some k:=by
 grind [Bk,gn.kO,bM]
def Nj(P:Program)(t:TypeId)(op:BinOp)(oy:Operand)(x y:AV):Option AV:=
 match op,Gj x y,P.underlying t with
 | .eql,some (b,k),some d=>if isConst oy&&Bk d k then some (.val .bool b) else none
 | .neq,some (b,k),some d=>if isConst oy&&Bk d k then some (.val .bool (!b)) else none
 |_,_,_=>none
theorem RV.xE{v:Value}(h:RV E w .hJ v):v= .nilIface:=by
 rcases RV.jq rfl h with⟨hh,_⟩|⟨_,hh⟩
 ·cases hh
 ·simpa[RC] using hh
theorem RV.rE{v:Value}(h:RV E w .eP v):v= .pointer none:=by
 rcases RV.jq rfl h with⟨hh,_⟩|⟨_,hh⟩
 ·cases hh
 ·simpa[RC] using hh
theorem RV.nE{v:Value}(h:RV E w .dX v):v= .map none:=by
 rcases RV.jq rfl h with⟨hh,_⟩|⟨_,hh⟩
 ·cases hh
 ·simpa[RC] using hh
theorem RV.xF{v:Value}(h:RV E w .fv v):v= .nilFunc:=by
 rcases RV.jq rfl h with⟨hh,_⟩|⟨_,hh⟩
 ·cases hh
 ·simpa[RC] using hh
theorem zT{t:TypeId}{d:TypeDesc}{x y:AV}{b:Bool}{k:gn}(hu:P.underlying t=some d)(hk:ee d=some k)(hx:RV E w x vx)(hy:RV E w y vy)(h:Gj x y=some (b,k)):
 (Op.equal t vx vy).run P w= .ok b w∧(∀(op:BinOp)(ox oy:Operand),isConst oy=true→(eqGuard op t ox oy vx vy).run P w= .ok () w)∧(binOp .eql t vx vy).run P w= .ok (.bool b) w∧(binOp .neq t vx vy).run P w= .ok (.bool (!b)) w:=by
 have e0:Op.maxDepth=9999+1:=rfl
 have fin:(Op.equal t vx vy).run P w= .ok b w→(∀(op:BinOp)(ox oy:Operand),isConst oy=true→(eqGuard op t ox oy vx vy).run P w= .ok () w)→binOp .eql t vx vy=(do pure (.bool (←Op.equal t vx vy)))→binOp .neq t vx vy=(do pure (.bool (!(←Op.equal t vx vy))))→
  (Op.equal t vx vy).run P w= .ok b w∧(∀(op:BinOp)(ox oy:Operand),isConst oy=true→(eqGuard op t ox oy vx vy).run P w= .ok () w)∧(binOp .eql t vx vy).run P w= .ok (.bool b) w∧(binOp .neq t vx vy).run P w= .ok (.bool (!b)) w:=by
  simp_all
 have gd:∀(op:BinOp)(ox oy:Operand),isConst oy=true→(eqGuard op t ox oy .nilIface .nilIface).run P w= .ok () w:=by
  intro op ox oy hc
  cases oy with
  |const c=>cases op<;>simp[eqGuard]
  |_=>trivial
 unfold Gj at h
 split at h<;>cases h
 ·obtain rfl:=RV.xE hx
  obtain rfl:=RV.xE hy
  cases d<;>simp[ee] at hk
  exact fin (by rw[Op.equal,e0,Op.equalIn];simp[run_underlying hu]) gd rfl rfl
 ·rename_i ti v
  obtain⟨u,rfl⟩:∃u,vx= .iface ti u:=by
   rcases RV.jq rfl hx with⟨hh,_⟩|⟨_,hh⟩
   ·cases hh
   ·obtain⟨u,e,_⟩:=hh;grind
  obtain rfl:=RV.xE hy
  cases d<;>simp[ee] at hk
  exact fin (by rw[Op.equal,e0,Op.equalIn];simp[run_underlying hu]) (by simp_all[eqGuard]) rfl rfl
 ·obtain rfl:=RV.rE hx
  obtain rfl:=RV.rE hy
  cases d<;>simp[ee] at hk
  exact fin (by rw[Op.equal,e0,Op.equalIn];simp[run_underlying hu]) (by simp_all[eqGuard]) rfl rfl
 ·obtain⟨a,rfl⟩:∃a,vx= .pointer (some a):=by
   rcases RV.jq rfl hx with⟨hh,_⟩|⟨_,hh⟩
   ·cases hh
   ·obtain⟨g,_,e,_⟩:=hh;grind
  obtain rfl:=RV.rE hy
  cases d<;>simp[ee] at hk
  exact fin (by rw[Op.equal,e0,Op.equalIn];simp[run_underlying hu]) (by simp_all[eqGuard]) rfl rfl
 ·obtain⟨a,rfl⟩:∃a,vx= .pointer (some a):=by
   rcases RV.jq rfl hx with⟨hh,_⟩|⟨_,hh⟩
   ·cases hh
   ·obtain⟨bb,o,cs,e,_⟩:=hh;grind
  obtain rfl:=RV.rE hy
  cases d<;>simp[ee] at hk
  exact fin (by rw[Op.equal,e0,Op.equalIn];simp[run_underlying hu]) (by simp_all[eqGuard]) rfl rfl
 ·obtain rfl:=RV.nE hx
  obtain rfl:=RV.nE hy
  cases d<;>simp[ee] at hk
  exact fin (by rw[Op.equal,e0,Op.equalIn];simp[run_underlying hu]) (by simp_all[eqGuard]) rfl rfl
 ·obtain⟨a,rfl⟩:∃a,vx= .map (some a):=by
   rcases RV.jq rfl hx with⟨hh,_⟩|⟨_,hh⟩
   ·cases hh
   ·obtain⟨g,_,e⟩:=hh;grind
  obtain rfl:=RV.nE hy
  cases d<;>simp[ee] at hk
  exact fin (by rw[Op.equal,e0,Op.equalIn];simp[run_underlying hu]) (by simp_all[eqGuard]) rfl rfl
 ·rename_i k' v' y'
  obtain⟨a,e,hr⟩:=RV.atom rfl hx
  simp at e;subst e
  obtain rfl:=RV.nE hy
  cases d<;>simp[ee] at hk
  rcases hr with⟨rfl,rfl⟩|⟨es,g,en,clock,rfl,rfl,_⟩
  ·exact fin (by rw[Op.equal,e0,Op.equalIn];simp[run_underlying hu,Bj]) (by simp_all[eqGuard]) rfl rfl
  ·exact fin (by rw[Op.equal,e0,Op.equalIn];simp[run_underlying hu,Bj]) (by simp_all[eqGuard]) rfl rfl
 ·obtain rfl:=RV.xF hx
  obtain rfl:=RV.xF hy
  cases d<;>simp[ee] at hk
  exact fin (by rw[Op.equal,e0,Op.equalIn];simp[run_underlying hu]) (by simp_all[eqGuard]) rfl rfl
 ·obtain⟨f,c1,c2,rfl⟩:∃f c1 c2,vx= .func f c1 c2:=by
   rcases RV.jq rfl hx with⟨hh,_⟩|⟨_,hh⟩
   ·cases hh
   ·obtain⟨c1,c2,e,_⟩:=hh;grind
  obtain rfl:=RV.xF hy
  cases d<;>simp[ee] at hk
  exact fin (by rw[Op.equal,e0,Op.equalIn];simp[run_underlying hu]) (by simp_all[eqGuard]) rfl rfl
 ·obtain⟨a,rfl,ha⟩:∃a:Option Nat,vx= .map a∧(a=none↔b=true):=by
   rcases RV.jq rfl hx with⟨hh,_⟩|⟨_,hh⟩
   ·cases hh
   ·obtain⟨a,e,ha⟩:=hh;grind
  obtain rfl:=RV.nE hy
  cases d<;>simp[ee] at hk
  cases a with
  |
   none=>
   have hb:=ha.1 rfl;subst hb
   exact fin (by rw[Op.equal,e0,Op.equalIn];simp[run_underlying hu]) (by simp_all[eqGuard]) rfl rfl
  |
   some g=>
   have hb:b=false:=by
    grind
   subst hb
   exact fin (by rw[Op.equal,e0,Op.equalIn];simp[run_underlying hu]) (by simp_all[eqGuard]) rfl rfl
theorem Nk{t:TypeId}{op:BinOp}{x y r:AV}(hx:RV E w x vx)(hy:RV E w y vy)(h:Nj P t op oy x y=some r):
 (eqGuard op t ox oy vx vy).run P w= .ok () w∧∃v,(binOp op t vx vy).run P w= .ok v w∧RV E w r v:=by
 unfold Nj at h
 split at h
 ·rename_i b k d hn hd
  split at h
  ·rename_i hc
   cases h
   simp only[bj] at hc
   obtain⟨hc1,hc2⟩:=hc
   obtain⟨_,h2,h3,_⟩:=zT hd (zS hc2) hx hy hn
   grind [RV.bool]
  grind
 ·rename_i b k d hn hd
  split at h
  ·rename_i hc
   cases h
   simp only[bj] at hc
   obtain⟨hc1,hc2⟩:=hc
   obtain⟨_,h2,_,h3⟩:=zT hd (zS hc2) hx hy hn
   grind [RV.bool]
  grind
 grind
def AV.Bl:AV→Option Nat
 | .func (.func f) .nil .nil=>some f
 |_=>none
theorem Gk{x:AV}{v:Value}{f:Nat}(h:x.Bl=some f)(hx:RV E w x v):v=EW (some f):=by
 unfold AV.Bl at h
 split at h
 ·cases h
  rcases RV.jq rfl hx with⟨hh,_⟩|⟨_,hh⟩
  ·cases hh
  ·obtain⟨a,b,e,h1,h2,_⟩:=hh
   have ha:a= #[]:=by apply mb;trivial
   have hb:b= #[]:=by apply mb;trivial
   subst ha;subst hb
   exact(List.cons.inj e).1
 grind
def ID:List (Option Nat)→List (Nat×AV)→Option (List (Option Nat))
 |xs,[]=>some xs
 |
  xs,(i,v)::l=>match v.Bl with
  |some f=>if Nat.blt i xs.length then ID (xs.set i (some f)) l else none
  |none=>none
theorem Ej:
 ∀{ps:List (Nat×AV)}{vs:List (Nat×Value)}{xs ys:List (Option Nat)}{cells:Array Value},RP E w ps vs→cells.toList=xs.map EW→ID xs ps=some ys→
  ∃amE,Instr.fill (fun i=>some (i*1,1)) cells vs=some amE∧amE.toList=ys.map EW∧ys.length=xs.length
 |
  [],[],xs,ys,cells,_,hr,h=>by
  cases h;exact⟨cells,rfl,hr,rfl⟩
 |[],_::_,_,_,_,h,_,_=>h.elim
 |_::_,[],_,_,_,h,_,_=>h.elim
 |
  (i,x)::ps,(j,v)::vs,xs,ys,cells,⟨e,hx,hps⟩,hr,h=>by
  simp only at e;subst e
  simp only[ID] at h
  split at h
  ·rename_i f hf
   split at h
   ·rename_i hi
    have hi:i<xs.length:=by simp_all
    have hv:v=EW (some f):=Gk hf hx
    have hsz:cells.size=xs.length:=by rw[←pv,hr,jo]
    obtain⟨amE,f1,f2⟩:=ot (fun i=>some (i*1,1)) cells i (i*1) 1 v vs rfl (by rw[hv];rfl) (by omega)
    rw[f1]
    have aS:amE.toList=(xs.set i (some f)).map EW:=by
     simp_all[List.set_eq_take_append_cons_drop,EW,Value.cells]
    obtain⟨c2,g1,g2,g3⟩:=Ej hps aS h
    exact⟨c2,g1,g2,by rw[g3,jj]⟩
   grind
  grind
def xG(n:Nat):Nat→List (Nat×AV)→Option AV
 |k,[]=>if Nat.beq k n then some .nil else none
 |k,(i,.func f a b)::l=>if Nat.beq i k then(xG n (k+1) l).map (.cons (.func f a b)) else none
 |_,_=>none
theorem sZ{E:Env}{w:World}{n:Nat}:
 ∀{ps:List (Nat×AV)}{vs:List (Nat×Value)}{k:Nat}{r:AV}{cells:Array Value},RP E w ps vs→cells.size=n→xG n k ps=some r→
  ∃amE,Instr.fill (fun i=>some (i*1,1)) cells vs=some amE∧amE.size=n∧amE.toList.take k=cells.toList.take k∧k≤n∧RC E w r (amE.toList.drop k)∧r.isAgg=true
 |
  [],[],k,r,cells,_,hn,h=>by
  unfold xG at h
  split at h
  case isFalse=>cases h
  rename_i h1
  have:=bM h1
  cases h
  exact⟨cells,rfl,hn,rfl,by omega,by show List.drop k cells.toList= [];rw[tK (by simp;omega)],rfl⟩
 |[],_::_,_,_,_,h,_,_=>h.elim
 |_::_,[],_,_,_,h,_,_=>h.elim
 |
  (i,x)::ps,(j,v)::vs,k,r,cells,⟨e,hx,hps⟩,hn,h=>by
  simp only at e;subst e
  unfold xG at h
  split at h
  ·rename_i e;cases e
  ·rename_i f a b l e
   cases e
   split at h
   case isFalse=>cases h
   rename_i h1
   have:=bM h1
   subst this
   obtain⟨y,hy,rfl⟩:=Option.map_eq_some_iff.1 h
   have hv:RC E w (.func f a b) [v]:=by
    rcases RV.jq rfl hx with⟨hh,_⟩|⟨_,hh⟩
    ·cases hh
    ·exact hh
   have hc:v.cells.toList= [v]:=by
    obtain⟨_,_,e,_⟩:=hv
    cases(List.cons.inj e).1
    rfl
   have hlt:i+1≤n:=by
    obtain⟨_,_,_,_,g4,_⟩:=sZ (cells:=cells) hps hn hy
    exact g4
   obtain⟨c1,f1,f2⟩:=ot (fun i=>some (i*1,1)) cells i (i*1) 1 v vs rfl (by rw[←pv,hc];rfl) (by omega)
   rw[f1]
   have hl1:c1.size=n:=by rw[←pv,f2];simp[hc];omega
   obtain⟨c2,g1,g2,g3,_,g5,_⟩:=sZ (cells:=c1) hps hl1 hy
   have e1:c1.toList.take (i+1)=cells.toList.take i++[v]:=by
    rw[f2,hc,Nat.mul_one,vZ,List.take_append,gm (by simp;omega)]
    simp
    rw[show i+1 -min i cells.size=1 by omega]
    rfl
   have hlen:(cells.toList.take i).length=i:=by simp;omega
   have e2:c2.toList.take i=cells.toList.take i:=by
    have:c2.toList.take i=(c2.toList.take (i+1)).take i:=by rw[qw,qx (by omega)]
    rw[this,g3,e1,C8 (by omega),qw,Nat.min_self]
   have e3:c2.toList.drop i= [v]++c2.toList.drop (i+1):=by
    have:c2.toList.drop i=(c2.toList.take (i+1)).drop i++c2.toList.drop (i+1):=by
     rw[←List.drop_append_of_le_length (by simp;omega),kH]
    rw[this,g3,e1,List.drop_append_of_le_length (by omega),tK (by omega)]
    rfl
   exact⟨c2,g1,g2,e2,by omega,by rw[e3];exact⟨[v],_,rfl,hv,g5⟩,rfl⟩
  ·cases h
def xH(G:bN)(t:TypeId)(ps:List (Nat×AV)):Option AV:=
 match G.at t with
 |
  some td=>match td.ty with
  |
   .fns n=>match ID (List.replicate n none) ps with
   |some xs=>some (.val (.fns n) xs)
   |none=>xG n 0 ps
  |_=>none
 |none=>none
theorem Gl{G:bN}(T:bA P G){t:TypeId}{vs:Array (Nat×Value)}(hp:RP E w ps vs.toList){r:AV}(h:xH G t ps=some r):
 ∃v,(Instr.build t vs).run P w= .ok v w∧RV E w r v:=by
 unfold xH at h
 split at h
 ·rename_i td ht
  obtain⟨z,hz,hz1,hz2⟩:=T.zero ht w
  split at h
  ·rename_i n hty
   obtain⟨te,h1,h2,h3⟩:=T.S9 ht hty
   have hsz:=T.size h2 w
   rw[h3] at hsz
   rw[hty] at hz1
   have hrel:RC E w (Ty.zero (.fns n)) z.cells.toList:=(fN (E:=E) (w:=w) hz1).1
   have hrel2:z.cells.toList=(List.replicate n none).map EW:=hrel.2
   split at h
   ·rename_i xs hxs
    cases h
    obtain⟨amE,f1,f2,f3⟩:=Ej hp hrel2 hxs
    refine⟨.agg amE,?_,RV.eS (Or.inl ⟨rfl,amE,rfl,⟨by grind,f2⟩⟩)⟩
    simp_all[Instr.build,underlying,Ty.size]
   ·have hcs:z.cells.size=n:=by rw[←pv,hrel2];simp
    obtain⟨amE,f1,f2,_,_,f3,f4⟩:=sZ hp hcs h
    refine⟨.agg amE,?_,RV.eS (Or.inl ⟨f4,amE,rfl,f3⟩)⟩
    simp_all[Instr.build,underlying,Ty.size]
  grind
 grind
def IE(G:bN)(t:TypeId):Option (Ty×Ty):=
 match G.at t with
 |
  some td=>match G.at td.e,G.at td.e2 with
  |some k,some v=>if td.ty.mS&&k.ty.keyed then some (k.ty,v.ty) else none
  |_,_=>none
 |none=>none
def isInt:AV→Bool
 | .val (.int _) _=>true
 |_=>false
def U0:Option AV→Bool
 |some y=>isInt y
 |none=>true
def pW(G:bN)(d:Nat)(t:TypeId)(x:Option AV):Option fF:=
 match IE G t with
 |some (kt,vt)=>if U0 x then some ⟨.mp d,[(d,some (.map kt vt []))],[d],[]⟩ else none
 |none=>none
theorem yo{G:bN}(T:bA P G){gl:Ctx}{a:Act}(h:bQ gl σ E a w){d:Nat}{t:TypeId}{r:fF}{x:Option AV}{rs:Option Value}(hrs:RO E w x rs)(he:pW G d t x=some r)(hfr:∀b∈r.fr,σ.fresh b):
 ∃v w' E',(Instr.makeMap t rs).run P w= .ok v w'∧bQ gl {σ with hp:=aS σ.hp r.hw} E' a w'∧RV E' w' r.v v∧Ext gl.md (bx σ.hp E) E w (bx (aS σ.hp r.hw) E') E' w':=by
 unfold pW at he
 split at he
 ·rename_i kt vt hm
  split at he
  ·rename_i hx
   cases he
   have h1:∃ke ve,P.underlying t=some (.map ke ve):=by
    unfold IE at hm
    split at hm
    ·rename_i td ht
     split at hm
     ·rename_i k v hk hv
      split at hm
      ·rename_i hc
       cases hm
       simp only[bj] at hc
       exact⟨_,_,T.mapOf ht hc.1⟩
      grind
     grind
    grind
   obtain⟨ke,ve,h1⟩:=h1
   have hf:=hfr d (by simp)
   obtain⟨g1,x1⟩:=h.fresh (w':=w.alloc (.map #[] 0)) hf (g:=some w.heap.size) (sv:=undef) (t:=.unit) (k:=.map kt vt []) rfl (Tp.r rfl rfl) rfl (by simp) (fun i hi=>by grind [heap_alloc_old]) (fun i hi=>by grind)
    ⟨by simp,by grind,w.heap.size, #[],0,by simp[Env.at],heap_alloc_new w _,trivial,by simp,by simp⟩
   refine⟨.map (some w.heap.size),_,_,?_,g1,RV.eS (Or.inr ⟨rfl,w.heap.size,by simp[Env.at],rfl⟩),x1⟩
   cases rs with
   |none=>trivial
   |
    some v=>
    cases x with
    |none=>trivial
    |
     some y=>
     have hv:RV E w y v:=hrs
     cases y with
     |
      val ty n=>
      cases ty with
      |
       int k=>
       obtain⟨rfl,_⟩:=RV.eG hv
       simp[Instr.makeMap,run_underlying h1,asInt,asIntOf]
      |_=>trivial
     |_=>trivial
  grind
 grind
def zU(P:Program)(G:bN)(d:Nat)(op:Op)(ev:Operand→AV):Option fF:=
 match op with
 | .build t ps=>(xH G t (oz ev ps)).map .one
 | .binOp o t x y _=>(Nj P t o y (ev x) (ev y)).map .one
 | .index t x i=>(vo G t (ev x) (ev i)).map .N2
 | .makeMap t x=>pW G d t (x.map ev)
 | .makeFunc (.func _) _ _=>some (.one .fx)
 |_=>none
theorem Nl{G:bN}(T:bA P G){gl:Ctx}{a:Act}(h:bQ gl σ E a w){o:Oper}{d:Nat}{r:fF}
 (hev:∀x∈o.op.operands.toList,RV E w (ev x) (a.eval x)) (he:zU P G d o.op ev=some r) (hvc:dD r.vc) (hfr:∀b∈r.fr,σ.fresh b):bS P gl σ E a w o r:=by
 unfold zU at he
 split at he
 ·rename_i t ps hop
  obtain⟨u,hu,rfl⟩:=Option.map_eq_some_iff.1 he
  have hp:RP E w (oz ev ps) (ps.map fun(i,x)=>(i,a.eval x)).toList:=by
   rw[Array.toList_map]
   refine lU (fun x hx=>hev x.2 ?_)
   simp only[hop,Op.operands,qt]
   grind
  obtain⟨v,h1,h2⟩:=Gl T hp hu
  exact bS.same h (v:=v) (by simp[execOp,hop,h1]) h2
 ·rename_i bo t x y t2 hop
  obtain⟨u,hu,rfl⟩:=Option.map_eq_some_iff.1 he
  obtain⟨h0,v,h1,h2⟩:=Nk (P:=P) (ox:=x) (hev x (by simp[hop,Op.operands])) (hev y (by simp[hop,Op.operands])) hu
  exact bS.same h (v:=v) (by simp[execOp,hop,h0,h1]) h2
 ·rename_i t x i hop
  obtain⟨⟨u,vc⟩,hu,rfl⟩:=Option.map_eq_some_iff.1 he
  obtain⟨v,h1,h2⟩:=Gi T (hev x (by simp[hop,Op.operands])) (hev i (by simp[hop,Op.operands])) hu hvc
  exact bS.same h (v:=v) (by simp[execOp,hop,h1]) h2
 ·rename_i t x hop
  obtain⟨v,w',E',h1,h2,h3,h4⟩:=yo T h (rs:=x.map a.eval) (Bg (fun y hy=>hev y (by simp[hop,Op.operands,hy]))) he hfr
  exact⟨_,v,w',E',by simp[execOp,hop,h1],Or.inl rfl,h2,h3,h4⟩
 ·rename_i f fs cs hop
  cases he
  exact bS.same h (v:=.func (.func f) (fs.map a.eval) (cs.map a.eval)) (by simp[execOp,hop,Instr.makeFunc]) (RV.eS (Or.inr ⟨rfl,_,_,_,rfl⟩))
 grind
def Bm(G:bN)(t:TypeId)(x:AV):Option AV:=
 match G.at t with
 |some td=>if x.plain&& !Ty.same td.ty (.aT .iface) then some (.iface t x) else none
 |none=>none
def xI(G:bN)(x:AV)(s:TypeId):Option AV:=
 match x,G.at s with
 | .iface t v,some td=>if Nat.beq t s&&v.plain&& !Ty.same td.ty (.aT .iface) then some (.fU (.cons v (.cons (.val .bool true) .nil))) else none
 |_,_=>none
def zV(G:bN)(op:Op)(ev:Operand→AV):Option fF:=
 match op with
 | .makeInterface t x=>(Bm G t (ev x)).map .one
 | .typeAssert x _ s true=>(xI G (ev x) s).map .one
 |_=>none
theorem bA.IF{G:bN}(T:bA P G){t:TypeId}(h:G.at t=some td)(hn:Ty.same td.ty (.aT .iface)=false):∃d,P.underlying t=some d∧∀x,d≠.interface x:=by
 obtain⟨ii,d,_,h1,_,h2,_⟩:=T.info h
 grind [ck]
theorem Gm{G:bN}(T:bA P G){t:TypeId}{x r:AV}{v:Value}(hx:RV E w x v)(h:Bm G t x=some r):∃u,(Instr.makeInterface t v).run P w= .ok u w∧RV E w r u:=by
 unfold Bm at h
 split at h
 ·rename_i td htd
  split at h
  ·rename_i hc
   cases h
   simp only[bj,gZ] at hc
   obtain⟨d,h1,h2⟩:=T.IF htd hc.2
   refine⟨.iface t v,?_,?_⟩
   ·simp_all[Instr.makeInterface,underlying]
   ·refine RV.eS (Or.inr ⟨rfl,v,rfl,?_⟩)
    rcases RV.jq hc.1 hx with⟨e,cs,e1,e2⟩|⟨e,e2⟩<;>grind
  grind
 grind
theorem Ek{G:bN}(T:bA P G){s xt:TypeId}{x r:AV}{v:Value}(hx:RV E w x v)(h:xI G x s=some r):∃u,(Instr.typeAssert v xt s true).run P w= .ok u w∧RV E w r u:=by
 unfold xI at h
 split at h
 ·rename_i t a td htd
  split at h
  ·rename_i hc
   cases h
   simp only[bj,gZ] at hc
   obtain⟨⟨hc1,hc2⟩,hc3⟩:=hc
   have hc1:=bM hc1
   subst hc1
   obtain⟨d,h1,h2⟩:=T.IF htd hc3
   obtain⟨y,e,hy⟩:=RV.atom rfl hx
   simp at e
   subst e
   have hy0:bZ E w a y:=by
    trivial
   refine⟨.tuple #[y,.bool true],?_,?_⟩
   ·simp_all[Instr.typeAssert,underlying]
   ·exact⟨#[y,.bool true],rfl,hy0,Or.inr ⟨rfl,by trivial⟩,rfl⟩
  grind
 grind
theorem Nn{G:bN}(T:bA P G){gl:Ctx}{a:Act}(h:bQ gl σ E a w){o:Oper}{r:fF}
 (hev:∀x∈o.op.operands.toList,RV E w (ev x) (a.eval x)) (he:zV G o.op ev=some r):bS P gl σ E a w o r:=by
 unfold zV at he
 split at he
 ·rename_i t x hop
  obtain⟨u,hu,rfl⟩:=Option.map_eq_some_iff.1 he
  obtain⟨v,h1,h2⟩:=Gm T (hev x (by simp[hop,Op.operands])) hu
  exact bS.same h (v:=v) (by simp[execOp,hop,h1]) h2
 ·rename_i x xt s hop
  obtain⟨u,hu,rfl⟩:=Option.map_eq_some_iff.1 he
  obtain⟨v,h1,h2⟩:=Ek (xt:=xt) T (hev x (by simp[hop,Op.operands])) hu
  exact bS.same h (v:=v) (by simp[execOp,hop,h1]) h2
 grind
end Go.Ax
