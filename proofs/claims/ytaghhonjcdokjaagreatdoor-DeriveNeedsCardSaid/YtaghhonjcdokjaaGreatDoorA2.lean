/- The machines: what it means to be walked or run, part 2. No condition. -/
import Derived.Test.YtaghhonjcdokjaaGreatDoorA1
import Derived.Laws.MakeOwn
import Derived.Laws.IdiomStrings
import Derived.Laws.Slices
import Derived.Laws.StructEq
import Derived.ChangeKeysEq
import Derived.RangeFuncRecord
namespace Go.Ax
theorem jx{hb:Nat→Option aN}{b bs:Nat}{t:Ty}{xs:List t.den}(h:fI hb b=some ⟨bs,t,xs⟩):∃e,hb b=some (.row e bs t xs):=by
 grind [fI]
theorem k9{gl:Ctx}{E:Env}{w:World}{hp:List (Option aN)}(hw:HW gl E w hp){hb:Nat→Option aN}(hB:HB hb hp):∀{x:AV}{m:Bool}{t:Ty}{y:AV}{l:List Nat}{vs:List Value},view hb x m t=some (y,l)→RC E w x vs→RC (E.cX l) w y vs:=by
 intro x
 induction x with
 |val t x=>intro m u y l vs h hr;simp only[view,dn,il] at h;obtain⟨rfl,rfl⟩:=h;exact RC.mono (Env.dH []) (fun b hb=>by cases hb) (a:=.val t x) hr
 |
  aF=>
  intro m u y l vs h hr
  cases u with
  |
   slice bs t=>
   cases m<;>(simp only[view,dn,il] at h;obtain⟨rfl,rfl⟩:=h;exact⟨none,0,by trivial,dD _,by simp,by simp,Or.inl rfl⟩)
  |_=>trivial
 |
  own b=>
  intro m u y l vs h hr
  have h':(match fI hb b with|some ⟨bs,t,xs⟩=>some (AV.val (.slice bs t) xs,[b])|none=>none)=some (y,l):=by trivial
  split at h'
  ·rename_i bs t xs hv
   cases h'
   obtain⟨e,hk⟩:=jx hv
   obtain⟨h1,h2,h3,h4,a,cap,h5,h6,h7⟩:=hw.cM b _ (hB b _ hk)
   obtain⟨hr,_⟩:=hr
   rw[h5] at hr
   rcases h7 with⟨h7,h8,h9⟩|⟨g,c,h7,h8,h9,h10,h11,h12⟩
   ·subst h9;obtain⟨rfl,rfl⟩:=h7
    exact⟨none,0,hr,by simp,h2,h3,Or.inl rfl⟩
   ·refine⟨a,cap,hr,h11,h2,h3,Or.inr ⟨g,0,_,h8,Or.inr ⟨b,by simp,h7⟩,?_,aV.mono (fun _ _ h=>Rel.mono (Env.dH [b]).w (Env.dH [b] (w:=w)).S h) h12⟩⟩
    have:=oZ.of_heap h9 0 (xs.length*t.size)
    grind
  grind
 |
  jV b lo len=>
  intro m u y l vs h hr
  have h':(match fI hb b with|some ⟨bs,t,xs⟩=>some (AV.val (.slice bs t) ((xs.drop lo).take len),[b])|none=>none)=some (y,l):=by trivial
  split at h'
  ·rename_i bs t xs hv
   cases h'
   obtain⟨e,hk⟩:=jx hv
   obtain⟨h1,h2,h3,h4,a,cap,h5,h6,h7⟩:=hw.cM b _ (hB b _ hk)
   obtain⟨a',c',n,tt,r1,r2,r3,r4,a2,r5,r6⟩:=hr
   rw[h1] at r1;cases r1
   rw[h5] at r2;cases r2
   have hlen:((xs.drop lo).take len).length=len:=by grind
   have hb1:len*bs≤aG:=dp (gB _ (by omega)) h2
   refine⟨_,_,by rw[hlen];exact r5,by grind,by grind,by grind,?_⟩
   rcases ov len with hz|hz
   ·grind
   ·rcases h7 with⟨h7,h8,h9⟩|⟨g,c,h7,h8,h9,h10,h11,h12⟩
    ·grind
    ·subst h8
     have hr0:=oZ.of_heap h9 0 (xs.length*t.size)
     simp only[iC] at hr0
     obtain⟨cs',q1,q2⟩:=aV.part hr0 h12 lo len
     refine Or.inr ⟨g,0+lo*t.size,cs',?_,Or.inr ⟨b,by simp,h7⟩,q1,aV.mono (fun _ _ h=>Rel.mono (Env.dH [b]).w (Env.dH [b] (w:=w)).S h) q2⟩
     grind [Addr.add]
  grind
 |
  jy b p lo len=>
  intro m u y l vs h hr
  cases u with
  |
   slice bs u=>
   have h':(match hb b with
    |
     some (.var _ v)=>match v.get p with
     |some (.val (.arr n t) xs)=>if Nat.ble (n*bs) aG&&Nat.ble n aG then some (AV.val (.slice bs t) ((List.drop lo xs).take len),[b]) else none
     |_=>none
    |_=>none)=some (y,l):=by trivial
   split at h'
   ·rename_i tt v hk
    split at h'
    ·rename_i n t xs hv
     split at h'
     ·rename_i hc
      cases h'
      simp only[aW] at hc
      have hc1:=fG hc.1
      have hc2:=fG hc.2
      obtain⟨n2,t2,r1,r2,r3,a,cap,e,r4,r5⟩:=hr
      have hkb:=hw.cM b _ (hB b _ hk)
      obtain⟨g,s,cs,q1,q2,q3,q4,q5⟩:=ql hkb r2 (u:=.val (.arr n t) xs) hv
      rw[r1] at q2;cases q2
      have:=Ty.aB (by trivial)
      cases this
      obtain⟨q5a,q5b⟩:=q5
      have hlen:((List.drop lo xs).take len).length=len:=by grind
      have hb1:len*bs≤aG:=dp (gB _ (by omega)) hc1
      refine⟨a,cap,by grind,by grind,by grind,by grind,?_⟩
      rcases r5 with r5|⟨g',r5,r6⟩
      ·grind
      ·rw[q1] at r5;cases r5
       obtain⟨cs',z1,z2⟩:=aV.part q4 q5b lo len
       exact Or.inr ⟨g,_,cs',r6,Or.inr ⟨b,by simp,q1⟩,z1,aV.mono (fun _ _ h=>Rel.mono (Env.dH [b]).w (Env.dH [b] (w:=w)).S h) z2⟩
     grind
    grind
   grind
  |_=>trivial
 |
  ptr b p=>
  intro m u y l vs h hr
  have h':(match hb b with
   |
    some k=>match ow k p,(jv k).sub p with
    |
     some u,some s=>match u.bM s with
     |some y=>some (AV.cI s y,[b])
     |none=>none
    |_,_=>none
   |none=>none)=some (y,l):=by trivial
  split at h'
  ·rename_i k hk
   split at h'
   ·rename_i u' s hu hs
    split at h'
    ·rename_i z hz
     cases h'
     obtain⟨g,r1,r2,r3⟩:=hr
     obtain⟨g',s',cs,q1,q2,q3,q4,q5⟩:=ql (hw.cM b _ (hB b _ hk)) r3 hu
     rw[r1] at q1;cases q1
     exact⟨g,_,cs,r2,Or.inr ⟨b,by simp,r1⟩,q4,Rel.mono (Env.dH [b]).w (Env.dH [b] (w:=w)).S (RC.bM hz q5)⟩
    grind
   grind
  grind
 |
  cI t x=>
  intro m u y l vs h hr
  have h':some (AV.cI t x,([]:List Nat))=some (y,l):=by trivial
  cases h'
  exact RC.mono (Env.dH []) (fun b hb=>by cases hb) hr
 |
  mp b=>
  intro m u y l vs h hr
  have h':(match hb b with
   |some (.map k v es)=>some (AV.val (.map k v) (some es),[b])
   |_=>none)=some (y,l):=by trivial
  split at h'
  ·rename_i k v es hk
   cases h'
   obtain⟨g,r1,r2⟩:=hr
   obtain⟨n1,n2,g',en,clock,q1,q2,q3,q4,q5⟩:=hw.cM b _ (hB b _ hk)
   rw[r1] at q1;cases q1
   exact⟨some g,r2,Or.inr ⟨es,g,en,clock,rfl,rfl,Or.inr ⟨b,by simp,r1⟩,q2,jX.mono (fun _ _=>iz.mono (fun _ _=>Rel.mono (Env.dH [b]).w (Env.dH [b] (w:=w)).S)) (fun _ _=>iz.mono (fun _ _=>Rel.mono (Env.dH [b]).w (Env.dH [b] (w:=w)).S)) (RM.to q3),n1,n2,q4,q5⟩⟩
  grind
 |
  dg f t x=>
  intro m u y l vs h hr
  have h':some (AV.dg f t x,([]:List Nat))=some (y,l):=by trivial
  cases h'
  exact RC.mono (Env.dH []) (fun b hb=>by cases hb) hr
 |
  func fn fs cs ih1 ih2=>
  intro m u y l vs h hr
  have h':(match view hb fs true .unit,view hb cs true .unit with
   |some (f,l),some (c,m)=>if f.atoms&&c.atoms then some (AV.func fn f c,l++m) else none
   |_,_=>none)=some (y,l):=by trivial
  split at h'
  ·rename_i f l1 c l2 hf hc
   split at h'
   ·rename_i ha
    cases h'
    simp only[aW] at ha
    obtain⟨f',c',e,r1,r2,r3,r4⟩:=hr
    have q1:=RC.mono (Env.iQ (by grind):bL (E.cX l1) w (E.cX (l1++l2)) w) (fun _ _=>⟨rfl,rfl,rfl⟩) (ih1 hf r1)
    have q2:=RC.mono (Env.iQ (by grind):bL (E.cX l2) w (E.cX (l1++l2)) w) (fun _ _=>⟨rfl,rfl,rfl⟩) (ih2 hc r2)
    exact⟨f',c',e,q1,q2,ha.1,ha.2⟩
   grind
  grind
 |
  cons a b ih1 ih2=>
  intro m u y l vs h hr
  obtain⟨v1,v2,e,r1,r2⟩:=hr
  cases m with
  |
   true=>
   have h':(match view hb a false .unit,view hb b true .unit with
    |some (x,l),some (y,m)=>some (AV.cons x y,l++m)
    |_,_=>none)=some (y,l):=by trivial
   split at h'
   ·rename_i x l1 z l2 h1 h2
    cases h'
    have q1:=RC.mono (Env.iQ (by grind):bL (E.cX l1) w (E.cX (l1++l2)) w) (fun _ _=>⟨rfl,rfl,rfl⟩) (ih1 h1 r1)
    have q2:=RC.mono (Env.iQ (by grind):bL (E.cX l2) w (E.cX (l1++l2)) w) (fun _ _=>⟨rfl,rfl,rfl⟩) (ih2 h2 r2)
    exact⟨v1,v2,e,q1,q2⟩
   grind
  |
   false=>
   cases u with
   |
    pair s t=>
    simp only[view] at h
    split at h
    ·rename_i s' x l1 t' z l2 h1 h2
     cases h
     have q1:=RC.mono (Env.iQ (by grind):bL (E.cX l1) w (E.cX (l1++l2)) w) (fun _ _=>⟨rfl,rfl,rfl⟩) (ih1 h1 r1)
     have q2:=RC.mono (Env.iQ (by grind):bL (E.cX l2) w (E.cX (l1++l2)) w) (fun _ _=>⟨rfl,rfl,rfl⟩) (ih2 h2 r2)
     exact⟨v1,v2,e,q1,q2⟩
    grind
   |_=>trivial
 |
  nil=>
  intro m u y l vs h hr
  cases m with
  |true=>
   have h':some (AV.nil,([]:List Nat))=some (y,l):=by trivial
   cases h';exact hr
  |false=>
   have h':some (AV.val .unit (),([]:List Nat))=some (y,l):=by trivial
   cases h';exact hr
 |gK=>
  intro m u y l vs h hr;have h':some (AV.gK,([]:List Nat))=some (y,l):=by trivial
  cases h';exact hr
 |fN=>
  intro m u y l vs h hr;have h':some (AV.fN,([]:List Nat))=some (y,l):=by trivial
  cases h';exact hr
 |_=>grind [view]
theorem iF{hb:Nat→Option aN}{x y:AV}{t:Ty}{l:List Nat}(h:view hb x false t=some (y,l)):y.isAgg=x.isAgg:=by
 cases x with
 |val t x=>grind [view]
 |aF=>cases t<;>simp[view] at h;rw[←h.1];rfl
 |
  own b=>
  have h':(match fI hb b with|some ⟨bs,t,xs⟩=>some (AV.val (.slice bs t) xs,[b])|none=>none)=some (y,l):=by trivial
  split at h'<;>cases h';rfl
 |
  jV b lo len=>
  have h':(match fI hb b with|some ⟨bs,t,xs⟩=>some (AV.val (.slice bs t) ((xs.drop lo).take len),[b])|none=>none)=some (y,l):=by trivial
  split at h'<;>cases h';rfl
 |
  jy b p lo len=>
  cases t with
  |
   slice bs t=>
   simp only[view] at h
   split at h
   ·split at h
    ·split at h
     ·cases h;rfl
     grind
    grind
   grind
  |_=>trivial
 |
  ptr b p=>
  have h':(match hb b with
   |
    some k=>match ow k p,(jv k).sub p with
    |
     some u,some s=>match u.bM s with
     |some y=>some (AV.cI s y,[b])
     |none=>none
    |_,_=>none
   |none=>none)=some (y,l):=by trivial
  split at h'
  ·split at h'
   ·split at h'
    ·cases h';rfl
    grind
   grind
  grind
 |cI t' x=>
  have h':some (AV.cI t' x,([]:List Nat))=some (y,l):=by trivial
  grind
 |
  func fn fs cs=>
  have h':(match view hb fs true .unit,view hb cs true .unit with
   |some (f,l),some (c,m)=>if f.atoms&&c.atoms then some (AV.func fn f c,l++m) else none
   |_,_=>none)=some (y,l):=by trivial
  split at h'
  ·split at h'
   ·cases h';rfl
   grind
  grind
 |
  cons a b=>
  cases t with
  |
   pair s t=>
   simp only[view] at h
   split at h
   ·cases h;rfl
   grind
  |_=>trivial
 |nil=>
  have h':some (AV.val .unit (),([]:List Nat))=some (y,l):=by trivial
  cases h';rfl
 |gK=>
  have h':some (AV.gK,([]:List Nat))=some (y,l):=by trivial
  grind
 |fN=>
  have h':some (AV.fN,([]:List Nat))=some (y,l):=by trivial
  grind
 |
  mp b=>
  have h':(match hb b with
   |some (.map k v es)=>some (AV.val (.map k v) (some es),[b])
   |_=>none)=some (y,l):=by trivial
  split at h'
  ·cases h';rfl
  grind
 |dg f u x=>
  have h':some (AV.dg f u x,([]:List Nat))=some (y,l):=by trivial
  grind
 |_=>trivial
theorem Ao{gl:Ctx}{E:Env}{w:World}{hp:List (Option aN)}(hw:HW gl E w hp){hb:Nat→Option aN}(hB:HB hb hp){x y:AV}{t:Ty}{l:List Nat}{v:Value}(h:view hb x false t=some (y,l))(hr:cK E w x v):cK (E.cX l) w y v:=by
 have ha:=iF h
 rcases hr with⟨h1,cs,e,h2⟩|⟨h1,h2⟩
 ·exact Or.inl ⟨by grind,cs,e,k9 hw hB h h2⟩
 ·exact Or.inr ⟨by grind,k9 hw hB h h2⟩
theorem qH{hb:Nat→Option aN}:∀{x:AV}{m:Bool}{t:Ty}{y:AV}{l:List Nat},view hb x m t=some (y,l)→∀b∈l,∃k,hb b=some k:=by
 intro x
 induction x with
 |
  own b=>
  intro m t y l h
  have h':(match fI hb b with|some ⟨bs,t,xs⟩=>some (AV.val (.slice bs t) xs,[b])|none=>none)=some (y,l):=by trivial
  grind [jx]
 |
  jV b lo len=>
  intro m t y l h
  have h':(match fI hb b with|some ⟨bs,t,xs⟩=>some (AV.val (.slice bs t) ((xs.drop lo).take len),[b])|none=>none)=some (y,l):=by trivial
  grind [jx]
 |
  jy b p lo len=>
  intro m t y l h
  cases t with
  |
   slice bs u=>
   have h':(match hb b with
    |
     some (.var _ v)=>match v.get p with
     |some (.val (.arr n t) xs)=>if Nat.ble (n*bs) aG&&Nat.ble n aG then some (AV.val (.slice bs t) ((List.drop lo xs).take len),[b]) else none
     |_=>none
    |_=>none)=some (y,l):=by trivial
   grind
  |_=>trivial
 |
  ptr b p=>
  intro m t y l h
  have h':(match hb b with
   |
    some k=>match ow k p,(jv k).sub p with
    |
     some u,some s=>match u.bM s with
     |some y=>some (AV.cI s y,[b])
     |none=>none
    |_,_=>none
   |none=>none)=some (y,l):=by trivial
  grind
 |
  func fn fs cs ih1 ih2=>
  grind [view]
 |
  cons a b ih1 ih2=>
  intro m t y l h
  cases m with
  |
   true=>
   grind [view]
  |
   false=>
   cases t with
   |
    pair s t=>
    grind [view]
   |_=>trivial
 |
  mp b=>
  intro m t y l h
  have h':(match hb b with
   |some (.map k v es)=>some (AV.val (.map k v) (some es),[b])
   |_=>none)=some (y,l):=by trivial
  grind
 |
  _=>
  intro m t y l h
  cases m<;>cases t<;>simp[view] at h<;>(try (intro b hb;rw[h.2] at hb;cases hb))
def AV.fM:AV→Bool
 | .val t _=>t.flat
 | .cons a b=>a.fM&&b.fM
 | .nil=>true
 | .gJ l=>l.fM
 | .iface _ v=>v.fM
 | .gK| .ep| .fN| .hJ| .aF=>true
 |_=>false
theorem RC.flat{E E':Env}{w w':World}:∀{a:AV}{vs:List Value},a.fM=true→RC E w a vs→RC E' w' a vs:=by
 intro a
 induction a with
 |val t x=>intro vs hf h;exact Rel.flat hf h
 |
  cons a b ih1 ih2=>
  intro vs hf h
  simp only[AV.fM,aW] at hf
  obtain⟨v1,v2,e,h1,h2⟩:=h
  exact⟨v1,v2,e,ih1 hf.1 h1,ih2 hf.2 h2⟩
 |nil=>intro vs _ h;exact h
 |gK=>intro vs _ h;exact h
 |ep=>intro vs _ h;exact h
 |fN=>intro vs _ h;exact h
 |hJ=>intro vs _ h;exact h
 |aF=>intro vs _ h;exact h
 |gJ l ih=>intro vs _ h;trivial
 |
  iface u v ih=>
  intro vs hf h
  obtain⟨x,e,h⟩:=h
  refine⟨x,e,?_⟩
  rcases h with⟨h1,cs,h2,h3⟩|⟨h1,h2⟩
  ·exact Or.inl ⟨h1,cs,h2,ih hf h3⟩
  ·exact Or.inr ⟨h1,ih hf h2⟩
 |_=>intro vs hf;trivial
theorem cK.flat{E E':Env}{w w':World}{a:AV}{v:Value}(hf:a.fM=true)(h:cK E w a v):cK E' w' a v:=by
 rcases h with⟨h1,cs,e,h2⟩|⟨h1,h2⟩
 ·exact Or.inl ⟨h1,cs,e,RC.flat hf h2⟩
 ·exact Or.inr ⟨h1,RC.flat hf h2⟩
theorem RT.flat{E E':Env}{w w':World}:∀{a:AV}{vs:List Value},a.fM=true→RT E w a vs→RT E' w' a vs:=by
 intro a
 induction a with
 |
  cons a b ih1 ih2=>
  intro vs hf h
  simp only[AV.fM,aW] at hf
  cases vs with
  |nil=>trivial
  |cons v vs=>exact⟨cK.flat hf.1 h.1,ih2 hf.2 h.2⟩
 |nil=>intro vs _ h;exact h
 |_=>intro vs _ h;trivial
theorem RV.flat{E E':Env}{w w':World}{a:AV}{v:Value}(hf:a.fM=true)(h:RV E w a v):RV E' w' a v:=by
 cases a with
 |bot=>trivial
 |gJ l=>obtain⟨vs,e,h⟩:=h;exact⟨vs,e,RT.flat hf h⟩
 |opt c a=>trivial
 |_=>exact cK.flat hf h
def rM(G:bR)(ev:Operand→AV)(x:Operand×TypeId):AV×Ty:=(ev x.1,match x.1,G.at x.2 with| .const _,_=>.unit|_,some td=>td.ty|_,none=>.unit)
theorem kF.append{E:Env}{w:World}:∀{xs ys:List AV}{vs us:List Value},kF E w xs vs→kF E w ys us→kF E w (xs++ys) (vs++us)
 |[],_,[],_,_,h=>h
 |[],_,_::_,_,h,_=>h.elim
 |_::_,_,[],_,h,_=>h.elim
 |_::_,_,_::_,_,h,k=>⟨h.1,kF.append h.2 k⟩
theorem kF.atoms{E:Env}{w:World}:∀{l:AV}{vs:List Value},l.atoms=true→RC E w l vs→kF E w l.toList vs:=by
 intro l
 induction l with
 |
  cons a b ih1 ih2=>
  intro vs ha h
  simp only[AV.atoms,aW] at ha
  obtain⟨v1,v2,e,h1,h2⟩:=h
  subst e
  have hl:=RC.len h1
  have hs:a.size=1:=by
   cases a with
   |val t x=>cases t<;>simp[AV.atom,Ty.isAgg] at ha<;>rfl
   |_=>first|rfl|simp[AV.atom] at ha
  rw[hs] at hl
  obtain⟨v,rfl⟩:∃v,v1= [v]:=by
   match v1,hl with
   |[v],_=>grind
  refine⟨RV.ef (Or.inr ⟨?_,h1⟩),ih2 ha.2 h2⟩
  cases a with
  |val t x=>cases t<;>simp[AV.atom,Ty.isAgg] at ha<;>rfl
  |_=>first|rfl|simp[AV.atom] at ha
 |nil=>intro vs _ h;simp only[RC] at h;subst h;trivial
 |_=>intro vs ha;trivial
theorem kF.map{E:Env}{w:World}{ev:Operand→AV}{ρ:Operand→Value}:∀(l:List Operand),(∀x∈l,RV E w (ev x) (ρ x))→kF E w (l.map ev) (l.map ρ)
 |[],_=>trivial
 |x::l,h=>⟨h x (dK ..),kF.map l (fun y hy=>h y (eH _ hy))⟩
end Go.Ax
namespace Go.Ax
theorem wP(off:Nat):∀(cs:List Value)(k:Nat)(c:Array Value),off+k+cs.length≤c.size→
 ((cs.zipIdx k).foldl (fun(cs:Array Value)(x:Value×Nat)=>cs.setIfInBounds (off+x.2) x.1) c).toList=c.toList.take (off+k)++cs++c.toList.drop (off+k+cs.length)
 |[],k,c,_=>by simp
 |
  x::cs,k,c,h=>by
  simp only[fc] at h
  rw[List.zipIdx_cons,List.foldl_cons,wP off cs (k+1) _ (by simp;omega)]
  simp only[Array.toList_setIfInBounds,fc]
  have hl:off+k<c.toList.length:=by simp;omega
  rw[show off+(k+1)=off+k+1 from by omega,List.take_set,List.drop_set_of_lt (by omega)]
  rw[show off+k+1+cs.length=off+k+(cs.length+1) from by omega]
  rw[List.take_succ_eq_append_getElem hl]
  rw[List.set_append_right _ _ (by simp;omega)]
  simp only[mS]
  rw[qj (by omega)]
  simp
theorem np(place:Nat→Option (Nat×Nat))(cells:Array Value)(i off size:Nat)(v:Value)(rest:List (Nat×Value))(hp:place i=some (off,size))(hs:v.cells.size=size)(hb:off+size≤cells.size):
 ∃ahC:Array Value,Instr.fill place cells ((i,v)::rest)=Instr.fill place ahC rest∧ahC.toList=cells.toList.take off++v.cells.toList++cells.toList.drop (off+size):=by
 refine⟨(v.cells.toList.zipIdx 0).foldl (fun(cs:Array Value)(x:Value×Nat)=>cs.setIfInBounds (off+x.2) x.1) cells,?_,?_⟩
 rotate_left
 ·simp_all[wP]
 ·simp only[Instr.fill,hp]
  rw[aD (by grind)]
  congr 1
  rw[←Array.foldl_toList]
  grind
def RP(E:Env)(w:World):List (Nat×AV)→List (Nat×Value)→Prop
 |[],[]=>True
 |x::xs,v::vs=>x.1=v.1∧RV E w x.2 v.2∧RP E w xs vs
 |_,_=>False
def Es(t:Ty):AV→List (Nat×AV)→Option AV
 |a,[]=>some a
 |
  a,(i,v)::l=>match t.sub [.cF i] with
  |
   some s=>if v.plain&&Nat.beq v.size s.size then(match a.set [.cF i] v with
   |some a'=>if a'.cE t then Es t a' l else none
   |none=>none) else none
  |none=>none
def Ap(t:Ty):List t.den→List (Nat×AV)→Option (List t.den)
 |xs,[]=>some xs
 |
  xs,(i,v)::l=>if v.plain then(match v.bM t with
  |some y=>if Nat.blt i xs.length then Ap t (xs.set i y) l else none
  |none=>none) else none
def AV.B6:AV→Bool
 | .aF=>true
 | .cons a b=>a.B6||b.B6
 |_=>false
def AV.norm(a:AV)(t:Ty):AV:=if a.B6 then a else match a.bM t with
 |some y=>.val t y
 |none=>a
def xX(G:bR)(t:TypeId)(ps:List (Nat×AV)):Option AV:=
 match G.at t with
 |
  some td=>match td.ty with
  | .arr n u=>if u.pure then(Ap u (List.replicate n u.aC) ps).map fun xs=>.val (.arr n u) xs else none
  | .pair a b=>(Es (.pair a b) (Ty.zero (.pair a b)) ps).map (AV.norm · (.pair a b))
  |
   .unit=>match ps with
   |[]=>some (.val .unit ())
   |_=>none
  |_=>none
 |none=>none
theorem Aq{E:Env}{w:World}{t:Ty}{place:Nat→Option (Nat×Nat)}(hpl:∀i s,t.sub [.cF i]=some s→place i=some (t.off [.cF i],s.size)∧t.valid [.cF i]):
 ∀{ps:List (Nat×AV)}{vs:List (Nat×Value)}{a r:AV}{cells:Array Value},RP E w ps vs→RC E w a cells.toList→a.cE t=true→Es t a ps=some r→
  ∃ahC,Instr.fill place cells vs=some ahC∧RC E w r ahC.toList∧r.cE t=true
 |
  [],[],a,r,cells,_,hr,hc,h=>by
  cases h;exact⟨cells,rfl,hr,hc⟩
 |[],_::_,_,_,_,h,_,_,_=>h.elim
 |_::_,[],_,_,_,h,_,_,_=>h.elim
 |
  (i,x)::ps,(j,v)::vs,a,r,cells,⟨e,hx,hps⟩,hr,hc,h=>by
  simp only at e;subst e
  simp only[Es] at h
  split at h
  ·rename_i s hs
   split at h
   ·rename_i hcond
    simp only[aW] at hcond
    split at h
    ·rename_i a' ha'
     split at h
     ·rename_i hc'
      obtain⟨p1,p2⟩:=hpl i s hs
      have hxc:=(RV.jD hcond.1 hx).cells
      have hlen:=RC.len hxc
      have hsz:=bP hcond.2
      obtain⟨s',e1,e2,e3,e4⟩:=AV.lJ hxc hr hc p2 (fun s' hs'=>by grind) ha'
      rw[hs] at e1;cases e1
      obtain⟨ahC,f1,f2⟩:=np place cells i _ s.size v vs p1 (by grind) (by grind)
      rw[f1]
      rw[←f2] at e4
      exact Aq hpl hps e4 hc' h
     grind
    grind
   grind
  grind
theorem tS{E:Env}{w:World}{t:Ty}:
 ∀{ps:List (Nat×AV)}{vs:List (Nat×Value)}{xs ys:List t.den}{cells:Array Value},RP E w ps vs→aV (Rel w E.S t) cells.toList xs→Ap t xs ps=some ys→
  ∃ahC,Instr.fill (fun i=>some (i*t.size,t.size)) cells vs=some ahC∧aV (Rel w E.S t) ahC.toList ys∧ys.length=xs.length
 |
  [],[],xs,ys,cells,_,hr,h=>by
  cases h;exact⟨cells,rfl,hr,rfl⟩
 |[],_::_,_,_,_,h,_,_=>h.elim
 |_::_,[],_,_,_,h,_,_=>h.elim
 |
  (i,x)::ps,(j,v)::vs,xs,ys,cells,⟨e,hx,hps⟩,hr,h=>by
  simp only at e;subst e
  simp only[Ap] at h
  split at h
  ·rename_i hpl
   split at h
   ·rename_i y hy
    split at h
    ·rename_i hi
     have hi:i<xs.length:=by simp_all
     have hxc:=(RV.jD hpl hx).cells
     have ah7:=RC.bM hy hxc
     have aR:=aV.set (r:=Rel w E.S t) (n:=t.size) (fun _ _ h=>Rel.len h) ah7 i hr hi
     have hlen:=Rel.len ah7
     have hcl:=aV.len (n:=t.size) (fun _ _ h=>Rel.len h) hr
     have hb:(i+1)*t.size≤xs.length*t.size:=gB _ hi
     rw[fQ,Nat.one_mul] at hb
     obtain⟨ahC,f1,f2⟩:=np (fun i=>some (i*t.size,t.size)) cells i (i*t.size) t.size v vs rfl (by grind) (by grind)
     rw[f1]
     rw[←f2] at aR
     obtain⟨c2,g1,g2,g3⟩:=tS hps aR h
     exact⟨c2,g1,g2,by rw[g3,bU]⟩
    grind
   grind
  grind
theorem AV.GC{a:AV}{t:Ty}(h:a.cE t=true):(a.norm t).cE t=true:=by
 unfold AV.norm;split
 ·exact h
 split
 ·exact Ty.dc _
 grind
theorem RC.norm{E:Env}{w:World}{a:AV}{t:Ty}{cs:List Value}(h:RC E w a cs):RC E w (a.norm t) cs:=by
 unfold AV.norm;split
 ·exact h
 split
 ·rename_i y hy;exact RC.bM hy h
 grind
theorem bD.structOf{P:Program}{G:bR}(T:bD P G){t:TypeId}{td:TD}(h:G.at t=some td){a b:Ty}(hs:td.ty= .pair a b):∃fs,P.underlying t=some (.struct fs)∧cz G fs.toList 0 td.ty=true:=by
 obtain⟨ii,d,_,h1,_,h2,_⟩:=T.info h
 have ahE:=dt h2
 cases hd:d with
 |struct fs=>subst hd;exact⟨fs,h1,h2⟩
 |
  array n e=>
  simp_all[cG]
 |
  _=>
  subst hd
  simp only[dx] at ahE
  rw[hs] at ahE;cases ahE
theorem po{G:bR}:∀{fs:List Field}{o:Nat}{t:Ty},cz G fs o t=true→∀f∈fs,∃td,G.at f.type=some td
 |[],_,_,_,f,hf=>by cases hf
 |
  g::fs,o,t,h,f,hf=>by
  cases t with
  |
   pair a b=>
   simp only[cz,aW] at h
   obtain⟨⟨⟨h1,_⟩,_⟩,h4⟩:=h
   cases hf with
   |
    head=>
    split at h1
    ·rename_i td htd;exact⟨td,htd⟩
    ·cases h1
   |tail _ hf=>exact po h4 f hf
  |_=>trivial
theorem nY{α β:Type}{P:Program}{w:World}(g:α→Sem β)(f:α→β):∀(l:List α),(∀x∈l,(g x).run P w= .ok (f x) w)→(l.mapM g).run P w= .ok (l.map f) w
 |[],_=>by simp
 |
  x::l,h=>by
  simp only[List.mapM_cons,Sem.run_bind,h x (dK ..),Result.andThen_ok,nY g f l (fun y hy=>h y (eH _ hy)),Sem.run_pure,dX]
theorem HL{α β:Type}{P:Program}{w:World}(g:α→Sem β)(f:α→β)(l:Array α)(h:∀x∈l.toList,(g x).run P w= .ok (f x) w):(l.mapM g).run P w= .ok (l.map f) w:=by
 rw[Array.mapM_eq_mapM_toList,Sem.run_map,nY g f l.toList h]
 simp only[Result.andThen_ok]
 congr 1
 grind
theorem run_build{P:Program}{G:bR}(T:bD P G){E:Env}{w:World}{t:TypeId}{ps:List (Nat×AV)}{vs:Array (Nat×Value)}(hp:RP E w ps vs.toList){r:AV}(h:xX G t ps=some r):
 ∃v,(Instr.build t vs).run P w= .ok v w∧RV E w r v:=by
 unfold xX at h
 split at h
 ·rename_i td ht
  obtain⟨z,hz,hz1,hz2⟩:=T.zero ht w
  split at h
  ·rename_i n u hty
   split at h
   ·rename_i hpure
    obtain⟨xs,hxs,rfl⟩:=Option.map_eq_some_iff.1 h
    obtain⟨te,h1,h2,h3⟩:=T.qm ht hty
    have hsz:=T.size h2 w
    rw[h3] at hsz
    rw[hty] at hz1
    have ah7:=(fT (E:=E) (w:=w) hz1).2 hpure
    obtain⟨ahC,f1,f2,f3⟩:=tS hp ah7.2 (xs:=List.replicate n u.aC) hxs
    refine⟨.agg ahC,?_,RV.ef (Or.inl ⟨rfl,ahC,rfl,⟨by grind,f2⟩⟩)⟩
    simp_all[Instr.build,underlying]
   grind
  ·rename_i a b hty
   obtain⟨r',hr',rfl⟩:=Option.map_eq_some_iff.1 h
   obtain⟨fs,h1,h2⟩:=T.structOf ht hty
   rw[hty] at hz1 h2
   have hrc:=(fT (E:=E) (w:=w) hz1).1
   have hpl:∀i s,(Ty.pair a b).sub [.cF i]=some s→((fs.map fun f=>(f.offset,((G.at f.type).map (·.ty.size)).getD 0))[i]?)=some ((Ty.pair a b).off [.cF i],s.size)∧(Ty.pair a b).valid [.cF i]:=by
    intro i s hs
    obtain⟨f,tf,e1,e2,e3,e4,e5,e6⟩:=lL h2 hs
    grind
   have hm:(fs.mapM fun f=>do pure (f.offset,←sizeOf f.type):Sem _).run P w= .ok (fs.map fun f=>(f.offset,((G.at f.type).map (·.ty.size)).getD 0)) w:=by
    refine HL _ _ fs ?_
    intro f hf
    obtain⟨tf,htf⟩:=po h2 f hf
    simp[T.size htf,htf]
   obtain⟨ahC,f1,f2,f3⟩:=Aq hpl hp hrc (Ty.rm _) hr'
   refine⟨.agg ahC,?_,RV.ef (Or.inl ⟨?_,ahC,rfl,RC.norm f2⟩)⟩
   ·simp only[Instr.build,Sem.run_bind,hz,Result.andThen_ok,underlying,run_program,h1,Sem.run_pure,hm]
    rw[f1]
    simp
   ·rw[AV.iN (AV.GC f3)];rfl
  ·rename_i hty
   split at h
   ·cases h
    have hvs:vs= #[]:=by
     apply l6
     cases hv:vs.toList with
     |nil=>rfl
     |cons _ _=>rw[hv] at hp;trivial
    subst hvs
    obtain⟨ii,d,_,h1,_,h2,_⟩:=T.info ht
    have ahE:=dt h2
    rw[hty] at ahE hz1
    have hrc:=(fT (E:=E) (w:=w) hz1).1
    cases hd:d with
    |
     struct fs=>
     subst hd
     simp only[cG,hty] at h2
     have hfs:fs= #[]:=by
      grind [cz]
     subst hfs
     refine⟨.agg z.cells,?_,RV.ef (Or.inl ⟨rfl,z.cells,rfl,hrc⟩)⟩
     simp[Instr.build,hz,underlying,h1,Instr.fill]
    |
     array n e=>
     grind [cG]
    |_=>grind [dx,Ty.isAgg]
   grind
  grind
 grind
def la(G:bR)(d:Nat)(t:TypeId)(len:Nat)(ps:List (Nat×AV)):Option (AV×aN):=
 match G.at t with
 |
  some td=>match td.ty with
  | .slice bs u=>if u.pure&&Nat.ble (len*u.size) 16777216&&Nat.ble (len*bs) aG&&Nat.ble len aG then(Ap u (List.replicate len u.aC) ps).map fun xs=>(.own d,.row td.e bs u xs) else none
  |_=>none
 |none=>none
theorem qI{w:World}{S:Nat→Prop}{u:Ty}{z:List Value}(hz:Rel w S u z u.aC)(_hu:0<u.size)(len:Nat)(zc:Array Value)(hzc:zc.toList=z):
 aV (Rel w S u) ((Array.range (len*u.size)).map (zc[· % zc.size]!)).toList (List.replicate len u.aC):=by
 have hl:=Rel.len hz
 have hs:zc.size=u.size:=by grind
 refine aV.Bk u.aC u.size len _ (by simp) ?_
 intro i hi
 have:((((Array.range (len*u.size)).map (zc[· % zc.size]!)).toList.drop (i*u.size)).take u.size)=z:=by
  apply List.ext_getElem?
  intro j
  rw[List.getElem?_take]
  by_cases hj:j<u.size
  ·rw[aA hj,List.getElem?_drop]
   have hb:(i+1)*u.size≤len*u.size:=gB _ hi
   rw[fQ,Nat.one_mul] at hb
   have hij:i*u.size+j<len*u.size:=by omega
   simp only[Array.getElem?_toList,Array.getElem?_map]
   rw[Array.getElem?_range,aA hij]
   grind [Nat.mul_comm,Nat.mul_add_mod,Nat.mod_eq_of_lt]
  grind
 grind
theorem sH{P:Program}{G:bR}(T:bD P G){gl:Ctx}{σ:St}{E:Env}{a:Act}{w:World}(h:bX gl σ E a w){d:Nat}(hf:σ.fresh d){t:TypeId}{len:Nat}{ps:List (Nat×AV)}{vs:Array (Nat×Value)}(hp:RP E w ps vs.toList){r:AV}{k:aN}(hb:la G d t len ps=some (r,k)):
 ∃v w' E',(Instr.buildSlice t len vs).run P w= .ok v w'∧bX gl (σ.cM d (some k)) E' a w'∧RV E' w' r v∧Ext gl.md (Own σ.hp E) E w (Own (σ.cM d (some k)).hp E') E' w':=by
 unfold la at hb
 split at hb
 ·rename_i td ht
  split at hb
  ·rename_i bs u hty
   split at hb
   ·rename_i hc
    simp only[aW] at hc
    obtain⟨⟨⟨hpure,hc1⟩,hc2⟩,hc3⟩:=hc
    have hc1:=fG hc1
    have hc2:=fG hc2
    have hc3:=fG hc3
    obtain⟨xs,hxs,e⟩:=Option.map_eq_some_iff.1 hb
    cases e
    obtain⟨te,ie,h1,h2,h3,h4,h5,h6,h7⟩:=T.cT ht hty
    obtain⟨z,hz,hz1,hz2⟩:=T.zero h2 w
    have hsz:=T.size h2 w
    rw[h3] at hsz hz1
    have ah7:=(fT (E:=E) (w:=w) hz1).2 hpure
    have hmade:=qI ah7 h6 len z.cells rfl
    obtain⟨ahC,f1,f2,f3⟩:=tS hp hmade hxs
    rw[l0] at f3
    have hcl:ahC.size=len*u.size:=by
     grind [aV.len,Rel.len,nW]
    have ahL:(Instr.buildSlice t len vs).run P w= .ok (.slice (some ⟨w.heap.size,0,none⟩) len len) {w with heap:=w.heap.push (.cells ahC td.e)}:=by
     have Vc:¬(len*u.size>2^24):=by
      grind
     by_cases hn:len*u.size=0
     ·have e0:len=0:=by
       rcases Nat.mul_eq_zero.1 hn with h|h<;>grind
      subst e0
      have f1':Instr.fill (fun i=>some (i*u.size,u.size)) ((Array.range (0*u.size)).map ((#[]:Array Value)[· % (#[]:Array Value).size]!)) vs.toList=some ahC:=by
       grind
      simp only[Instr.buildSlice,Sem.run_bind,underlying,run_program,Result.andThen_ok,h1,Sem.run_pure,hsz,aD Vc,aA hn]
      rw[f1']
      trivial
     ·simp only[Instr.buildSlice,Sem.run_bind,underlying,run_program,Result.andThen_ok,h1,Sem.run_pure,hsz,aD Vc,aD hn,hz]
      rw[f1]
      trivial
    have kp:bL E w (E.at d (some w.heap.size) (.slice (some ⟨w.heap.size,0,none⟩) len len) (.arr len u)) {w with heap:=w.heap.push (.cells ahC td.e)}:=⟨fun b hb=>iW _ _ _ (h.hw.slt b hb),fun b hb=>hb⟩
    obtain⟨q1,q2⟩:=h.fresh hf (w':={w with heap:=w.heap.push (.cells ahC td.e)}) (g:=some w.heap.size) (sv:=.slice (some ⟨w.heap.size,0,none⟩) len len) (t:=.arr len u) (k:=.row td.e bs u xs) rfl (Tp.r rfl rfl) rfl (by simp) (fun i hi=>iW _ _ _ hi) (fun i hi=>by grind)
     (by
      refine⟨by simp[Env.at,f3],by grind,by grind,h6,some ⟨w.heap.size,0,none⟩,len,by simp[Env.at,f3],?_,Or.inr ⟨w.heap.size,ahC,by simp[Env.at],rfl,oz _ _,hcl,by omega,?_⟩⟩
      ·unfold aG at hc3;unfold maxLen;omega
      ·rw[f3,←hcl,gR (by simp)]
       exact aV.mono (fun _ _=>Rel.mono kp.w kp.S) f2)
    exact⟨_,_,_,ahL,q1,RV.ef (Or.inr ⟨rfl,by simp[Env.at],some ⟨w.heap.size,0,none⟩,len,len,by simp[Env.at]⟩),q2⟩
   grind
  grind
 grind
end Go.Ax
namespace Go.Ax
def HM(hb:Nat→Option aN)(bs:Nat)(u:Ty):AV→Option (List u.den)
 | .val (.slice bs' u') xs=>if h:Ty.same u' u=true then if Nat.beq bs' bs then some (Ty.aB h▸xs) else none else none
 | .aF=>some []
 |
  .own b=>match hb b with
  |some (.row _ bs' u' xs)=>if h:Ty.same u' u=true then if Nat.beq bs' bs then some (Ty.aB h▸xs) else none else none
  |_=>none
 |
  .jV b lo len=>match hb b with
  |some (.row _ bs' u' xs)=>if h:Ty.same u' u=true then if Nat.beq bs' bs then some (Ty.aB h▸((xs.drop lo).take len)) else none else none
  |_=>none
 |
  .jy b p lo len=>match hb b with
  |
   some (.var _ v)=>match v.get p with
   |some (.val (.arr n u') xs)=>if h:Ty.same u' u=true then if Nat.ble (n*bs) aG&&Nat.ble n aG then some (Ty.aB h▸((List.drop lo xs).take len)) else none else none
   |_=>none
  |_=>none
 |_=>none
def SY(E:Env)(w:World)(bs:Nat)(u:Ty)(v:Value)(xs:List u.den):Prop:=
 ∃a cap,v= .slice a xs.length cap∧xs.length≤cap∧xs.length*bs≤aG∧xs.length≤aG∧
  (xs= []∨∃g o cs,a=some ⟨g,o,none⟩∧oZ w ⟨g,o,none⟩ cs∧aV (Rel w E.S u) cs xs)
theorem xY{gl:Ctx}{E:Env}{w:World}{hp:List (Option aN)}(hw:HW gl E w hp){hb:Nat→Option aN}(hB:HB hb hp){bs:Nat}{u:Ty}{x:AV}{v:Value}{xs:List u.den}(hx:RV E w x v)(h:HM hb bs u x=some xs):SY E w bs u v xs:=by
 unfold HM at h
 split at h
 ·rename_i bs' u' ys
  split at h
  ·rename_i hs
   split at h
   ·rename_i hb'
    have e:=Ty.aB hs
    subst e
    have:=bP hb';subst this
    cases h
    obtain⟨a,cap,e,h1,h2,h3,h4⟩:=RV.atom rfl hx
    simp at e;subst e
    refine⟨a,cap,rfl,h1,h2,h3,h4.imp id ?_⟩<;>grind
   grind
  grind
 ·cases h
  have hx:=RV.atom rfl hx
  simp[RC] at hx;subst hx
  exact⟨none,0,rfl,dD _,by simp,by simp,Or.inl rfl⟩
 ·rename_i b
  split at h
  ·rename_i e0 bs' u' ys hk
   split at h
   ·rename_i hs
    split at h
    ·rename_i hb'
     have e:=Ty.aB hs
     subst e
     have:=bP hb';subst this
     cases h
     have hx:=RV.atom rfl hx
     obtain⟨hr,_⟩:=hx
     simp at hr
     obtain⟨h1,h2,h3,h4,a,cap,h5,h6,h7⟩:=hw.cM b _ (hB b _ hk)
     rw[h5] at hr
     subst hr
     rcases h7 with⟨⟨h7,_⟩,h8,h9⟩|⟨g,c,h7,h8,h9,h10,h11,h12⟩
     ·subst h9;exact⟨a,cap,rfl,by simp,h2,h3,Or.inl rfl⟩
     ·refine⟨a,cap,rfl,h11,h2,h3,Or.inr ⟨g,0,_,h8,?_,h12⟩⟩
      have:=oZ.of_heap h9 0 (List.length ys*u'.size)
      grind
    grind
   grind
  grind
 ·rename_i b lo len
  split at h
  ·rename_i e0 bs' u' ys hk
   split at h
   ·rename_i hs
    split at h
    ·rename_i hb'
     have e:=Ty.aB hs
     subst e
     have:=bP hb';subst this
     cases h
     obtain⟨a',c',n,tt,r1,r2,r3,r4,a2,r5,r6⟩:=RV.atom rfl hx
     simp at r5;subst r5
     obtain⟨h1,h2,h3,h4,a,cap,h5,h6,h7⟩:=hw.cM b _ (hB b _ hk)
     rw[h1] at r1;cases r1
     rw[h5] at r2;cases r2
     have hlen:((ys.drop lo).take len).length=len:=by grind
     have hb1:len*bs'≤aG:=dp (gB _ (by omega)) h2
     refine⟨_,_,by rw[hlen],by grind,by grind,by grind,?_⟩
     rcases ov len with hz|hz
     ·grind
     ·rcases h7 with⟨h7,h8,h9⟩|⟨g,c,h7,h8,h9,h10,h11,h12⟩
      ·grind
      ·subst h8
       have hr0:=oZ.of_heap h9 0 (ys.length*u'.size)
       simp only[iC] at hr0
       obtain⟨cs',q1,q2⟩:=aV.part hr0 h12 lo len
       grind [Addr.add]
    grind
   grind
  grind
 ·rename_i b p lo len
  split at h
  ·rename_i tt v' hk
   split at h
   ·rename_i n u' ys hv
    split at h
    ·rename_i hs
     split at h
     ·rename_i hc
      have e:=Ty.aB hs
      subst e
      cases h
      simp only[aW] at hc
      have hc1:=fG hc.1
      have hc2:=fG hc.2
      obtain⟨n2,t2,r1,r2,r3,a,cap,e,r4,r5⟩:=RV.atom rfl hx
      simp at e;subst e
      have hkb:=hw.cM b _ (hB b _ hk)
      obtain⟨g,s,cs,q1,q2,q3,q4,q5⟩:=ql hkb r2 (u:=.val (.arr n u') ys) hv
      rw[r1] at q2;cases q2
      have:=Ty.aB (by simpa[AV.cE] using q3)
      cases this
      obtain⟨q5a,q5b⟩:=q5
      have hlen:((List.drop lo ys).take len).length=len:=by simp;omega
      have hb1:len*bs≤aG:=dp (gB _ (by omega)) hc1
      refine⟨a,cap,by rw[hlen],by grind,by grind,by grind,?_⟩
      rcases r5 with r5|⟨g',r5,r6⟩
      ·grind
      ·rw[q1] at r5;cases r5
       obtain⟨cs',z1,z2⟩:=aV.part q4 q5b lo len
       grind
     grind
    grind
   grind
  grind
 grind
def tT(G:bR)(hb:Nat→Option aN)(d:Nat)(t t2:TypeId)(s x:AV):Option (fH):=
 match G.at t with
 |
  some td=>match td.ty with
  |
   .slice bs u=>if Nat.beq t t2 then(match HM hb bs u x with
   |
    some ys=>match s with
    | .aF=>some ⟨.own d,[(d,some (.row td.e bs u ys))],[d],[vc (ys.length*bs≤aG)]⟩
    |
     .own b=>match hb b with
     |some (.row e' bs' u' xs)=>if h:Ty.same u' u=true then if Nat.beq bs' bs&&Nat.beq e' td.e&& !Nat.beq b d then some ⟨.own d,[(b,none),(d,some (.row td.e bs u ((Ty.aB h▸xs:List u.den)++ys)))],[d],[vc ((xs.length+ys.length)*bs≤aG)]⟩ else none else none
     |_=>none
    |_=>none
   |none=>none) else none
  |_=>none
 |none=>none
theorem sI{P:Program}{w:World}{t ty e:TypeId}{i:TypeInfo}(ht:P.underlying t=some (.slice e))(hi:P.info? e=some i)(a a2:Option Addr)(n cap c:Nat)(hn:n≤cap):
 (Builtin.append_ #[t,t] ty #[.slice a n cap,.slice a2 0 c]).run P w= .ok (.slice a n cap) w:=by
 have hf:(Builtin.firstCells i.size 0 (.slice a2 0 c)).run P w= .ok #[] w:=by
  cases a2<;>simp[Builtin.firstCells,loadCells,loadCellsFrom]
 cases a with
 |none=>simp[Builtin.append_,run_underlying ht,sizeOf,typeInfo,hi,Builtin.lenOf,hn,hf]
 |some a=>simp[Builtin.append_,run_underlying ht,sizeOf,typeInfo,hi,Builtin.lenOf,hn,hf,storeCells]
theorem aV.cells_one{w:World}{S:Nat→Prop}{u:Ty}{cs:List Value}{xs:List u.den}(h:aV (Rel w S u) cs xs):∀v∈cs,v.oneCell'=true:=
 Rel.one (t:=.arr xs.length u) (x:=xs) (w:=w) (S:=S) ⟨rfl,h⟩
def nZ(E:Env)(w0 w:World)(e:TypeId)(u:Ty)(v:Value)(g:Option Nat)(xs:List u.den):Prop:=
 (v= .slice none 0 0∧xs= []∧g=none)∨
 ∃i cap cur,g=some i∧v= .slice (some ⟨i,0,none⟩) xs.length cap∧w.heap[i]? =some (.cells cur e (0,0))∧xs.length≤cap∧cap≤maxLen∧cur.size=cap*u.size∧aV (Rel w0 E.S u) (cur.toList.take (xs.length*u.size)) xs
theorem tU{P:Program}{gl:Ctx}{G:bR}(T:bD P G){w:World}{E:Env}{t ty:TypeId}{td:TD}(ht:G.at t=some td){bs:Nat}{u:Ty}(hty:td.ty= .slice bs u)
 {v x:Value} {g:Option Nat} {xs ys:List u.den} (hv:nZ E w w td.e u v g xs) (hx:SY E w bs u x ys) (hb:(xs.length+ys.length)*bs≤aG):
 ∃v' w' g',(Builtin.append_ #[t,t] ty #[v,x]).run P w= .ok v' w'∧nZ E w w' td.e u v' g' (xs++ys)∧w'.os=w.os∧Tp gl.md w w'∧w'.output=w.output∧w.heap.size≤w'.heap.size∧
  (∀k,k<w.heap.size→g≠some k→w'.heap[k]? =w.heap[k]?)∧(∀k,g'=some k→g=some k∨w.heap.size≤k):=by
 obtain⟨te,ie,h1,h2,h3,h4,h5,h6,h7⟩:=T.cT ht hty
 obtain⟨a,c,rfl,hc1,hc2,hc3,hx⟩:=hx
 have hmn:xs.length+ys.length≤aG:=dp (Nat.le_mul_of_pos_right _ h7) hb
 obtain⟨i',d',h1i,_,hsz,_,z,hz,hz1,_⟩:=T.info h2
 rw[h4] at h1i;cases h1i
 rw[h3] at hsz hz1
 have hzl:z.cells.size=u.size:=by
  have:=RC.len (fT (E:=E) (w:=w) hz1).1
  grind [AV.eo,Ty.rm]
 rcases ov ys.length with hm|hm
 ·have hy:ys= []:=xz hm
  subst hy
  have hn:∃ad n cap,v= .slice ad n cap∧n≤cap:=by
   rcases hv with⟨e,_,_⟩|⟨i,cap,cur,_,e,_,h,_⟩<;>grind
  obtain⟨ad,n,cap,e,hn⟩:=hn
  refine⟨v,w,g,?_,by grind,rfl,Tp.r rfl rfl,rfl,dD _,fun _ _ _=>rfl,fun k hk=>Or.inl hk⟩
  grind [sI]
 ·rcases hx with hx|⟨ga,oa,cs,rfl,hr,ah7⟩
  ·grind
  ·have hl:cs.length=ys.length*ie.size:=by grind [aV.len,Rel.len]
   have mx:aG≤maxLen:=by trivial
   have hbb:(xs.length+ys.length)*ie.bytes≤140737488355328:=by rw[h5];exact hb
   have grown:∀(qG:Nat)(os:List Value),aV (Rel w E.S u) os xs→
    nZ E w (w.drew.alloc (.cells (os.toArray++cs.toArray++Builtin.zeroCells z.cells (grownCap w (xs.length+ys.length) qG td.e -(xs.length+ys.length))) td.e)) td.e u
     (.slice (some ⟨w.heap.size,0,none⟩) (xs.length+ys.length) (grownCap w (xs.length+ys.length) qG td.e)) (some w.heap.size) (xs++ys):=by
    intro qG os hos
    have hge:=grownCap_ge w (xs.length+ys.length) qG td.e
    have hol:os.length=xs.length*u.size:=aV.len (fun _ _ h=>Rel.len h) hos
    refine Or.inr ⟨w.heap.size,_,_,rfl,by rw[eI],heap_alloc_new w.drew _,by grind,grownCap_le_maxLen w _ _ _ (by omega),?_,?_⟩
    ·simp only[Array.size_append,List.size_toArray,size_zeroCells,hzl,hol,hl,hsz,←fQ]
     grind
    grind [aV.append,fQ]
   rcases hv with⟨rfl,rfl,rfl⟩|⟨i,cap,cur,rfl,rfl,hg,hnc,hcm,hcs,hrelx⟩
   ·have hbb0:ys.length*ie.bytes≤140737488355328:=by grind
    have hr':=run_append_nil (P:=P) w t ty td.e ie z h1 h4 hz ⟨ga,oa,none⟩ ys.length c cs hl hr hm (by unfold aG at hmn;omega) (by omega)
    have hgr:=grown 0 [] rfl
    simp only[qf,dY,List.nil_append] at hgr ⊢
    refine⟨_,_,some w.heap.size,hr',?_,rfl,Tp.s rfl rfl,rfl,by simp,fun k hk _=>heap_alloc_old w.drew _ k hk,fun k hk=>by cases hk;exact Or.inr (dD _)⟩<;>grind
   ·by_cases hroom:xs.length+ys.length≤cap
    ·have hfit:xs.length*ie.size+cs.length≤cur.size:=by rw[hl,hcs,hsz,←fQ];exact gB _ hroom
     have hr':=run_append_room (P:=P) w t ty td.e ie h1 h4 i xs.length cap cur hg ⟨ga,oa,none⟩ ys.length c cs hl hr (aV.cells_one ah7) hroom hfit
     refine⟨_,_,some i,hr',Or.inr ⟨i,cap,_,rfl,by grind,setRow_heap w i cur _ td.e _ hg,by grind,hcm,?_,?_⟩,rfl,Tp.r rfl rfl,rfl,by simp,fun k _ hk=>setRow_other w i k _ (fun e=>hk (by rw[e])),fun k hk=>Or.inl hk⟩
     ·grind
     ·rw[hsz] at hfit ⊢
      have hol:(cur.toList.take (xs.length*u.size)).length=xs.length*u.size:=by grind
      grind [fQ,aV.append]
    ·have holds:∀j v,(cur.toList.take (xs.length*u.size))[j]? =some v→w.cell? ((⟨i,0,none⟩:Addr).add j)=some v:=by
      have:=oZ.of_heap hg 0 (xs.length*u.size)
      trivial
     have hol:(cur.toList.take (xs.length*u.size)).length=xs.length*ie.size:=by
      simp_all
     have hr':=run_append_grow (P:=P) w t ty td.e ie z h1 h4 hz ⟨i,0,none⟩ xs.length cap _ hol holds ⟨ga,oa,none⟩ ys.length c cs hl hr (by omega) (by unfold aG at hmn;omega) (growslice_fits (by omega) hbb)
     exact⟨_,_,some w.heap.size,hr',grown cap _ hrelx,rfl,Tp.s rfl rfl,rfl,by simp,fun k hk _=>heap_alloc_old w.drew _ k hk,fun k hk=>by grind⟩
theorem HW.swap{gl:Ctx}{E:Env}{w w':World}{hp:List (Option aN)}(h:HW gl E w hp){b d:Nat}{k k':aN}{g:Option Nat}{sv:Value}{t:Ty}(hb:hp[b]? =some (some k))(hbd:b≠d)
 (hsz:w.heap.size≤w'.heap.size) (hold:∀i,i<w.heap.size→E.g b≠some i→w'.heap[i]? =w.heap[i]?) (hids:∀(c:Nat)(k':aN),hp[c]? =some (some k')→d∉k'.ids)
 (hg:∀i,g=some i→E.g b=some i∨w.heap.size≤i) (hk:RB (E.at d g sv t) w' d k'):HW gl (E.at d g sv t) w' ((hp.set b none).set d (some k')):=by
 have kp:bL E w (E.at d g sv t) w':=⟨fun i hi=>hold i (h.slt i hi) (fun e=>h.jY b k i hb e hi),fun b hb=>hb⟩
 have qG:∀(c:Nat)(k2:aN),c≠d→((hp.set b none).set d (some k'))[c]? =some (some k2)→hp[c]? =some (some k2)∧c≠b:=by
  grind
 have hno:∀(c:Nat)(k2:aN)(i:Nat),hp[c]? =some (some k2)→c≠b→E.has c i→g≠some i:=by
  intro c k2 i hc hcb hgi e
  rcases hg i e with h1|h1
  ·exact hcb (h.dW c b k2 k i hc hb hgi (Or.inl h1))
  ·have:=Own.below h ⟨c,k2,hc,hgi⟩;omega
 refine⟨?_,?_,?_,fun i hi=>vp (h.slt i hi) hsz,h.gj kp,?_⟩
 ·intro c k2 hc
  by_cases e:c=d
  ·grind
  ·obtain⟨hc',hcb⟩:=qG c k2 e hc
   refine RB.mono kp (Env.Bj ?_) ?_ (fun _ g hg=>by simpa[Env.at,e] using hg) (h.cM c k2 hc')
   ·grind
   ·intro i hi
    exact hold i (Own.below h ⟨c,k2,hc',hi⟩) (fun e'=>hcb (h.dW c b k2 k i hc' hb hi (Or.inl e')))
 ·intro c c' k1 k2 i hc hc' g1 g2
  by_cases e:c=d<;>by_cases e':c'=d
  ·grind
  ·grind [Env.kq,Env.jr]
  ·grind [Env.kq,Env.jr]
  ·exact h.dW c c' k1 k2 i (qG c k1 e hc).1 (qG c' k2 e' hc').1 ((Env.jr e).1 g1) ((Env.jr e').1 g2)
 ·intro c k1 i hc g1 hs
  by_cases e:c=d
  ·subst e
   rcases hg i (Env.kq.1 g1) with h1|h1
   ·exact h.jY b k i hb h1 hs
   ·have:=h.slt i hs;omega
  ·exact h.du c k1 i (qG c k1 e hc).1 ((Env.jr e).1 g1) hs
 ·intro c k1 i hc g1
  by_cases e:c=d
  ·subst e;simp[Env.at] at g1
  ·have g1:E.P c i:=by simpa[Env.at,e] using g1
   exact vp (h.sh c k1 i (qG c k1 e hc).1 g1) hsz
theorem bX.swap{gl:Ctx}{σ:St}{E:Env}{a:Act}{w w':World}(h:bX gl σ E a w){b d:Nat}{k k':aN}{g:Option Nat}{sv:Value}{t:Ty}(hf:σ.fresh d)(hb:σ.hp[b]? =some (some k))(hbd:b≠d)
 (hos:w'.os=w.os) (hta:Tp gl.md w w') (hou:w'.output=w.output) (hsz:w.heap.size≤w'.heap.size) (hold:∀i,i<w.heap.size→E.g b≠some i→w'.heap[i]? =w.heap[i]?)
 (hg:∀i,g=some i→E.g b=some i∨w.heap.size≤i) (hk:RB (E.at d g sv t) w' d k'):
 bX gl {σ with hp:=aR σ.hp [(b,none),(d,some k')]} (E.at d g sv t) a w'∧Ext gl.md (Own σ.hp E) E w (Own (aR σ.hp [(b,none),(d,some k')]) (E.at d g sv t)) (E.at d g sv t) w':=by
 have kp:bL E w (E.at d g sv t) w':=⟨fun i hi=>hold i (h.hw.slt i hi) (fun e=>h.hw.jY b k i hb e hi),fun b hb=>hb⟩
 have hw:=h.hw.swap (w':=w') (sv:=sv) (t:=t) hb hbd hsz hold (fun c k' hk hm=>hf.1 (St.zw hk d hm)) hg hk
 refine⟨h.carry kp (Env.Bj hf.1) hw,hos,hta,hou,hsz,?_,fun i hi=>hi,fun i hi=>Or.inl hi,?_,Env.JJ hf.2.2⟩
 ·intro i hi hn
  exact hold i hi (fun e=>hn ⟨b,k,hb,Or.inl e⟩)
 ·rintro i ⟨c,k2,hc,hgi⟩
  simp only[aR] at hc
  by_cases e:c=d
  ·subst e
   exact(hg i (Env.kq.1 hgi)).imp (fun h1=>⟨b,k,hb,Or.inl h1⟩) id
  ·have hgi:=(Env.jr e).1 hgi
   rw[dA,aD (fun e'=>e e'.symm),dA] at hc
   split at hc
   ·grind
   ·exact Or.inl ⟨c,k2,hc,hgi⟩
theorem nZ.RB{E:Env}{w w':World}{e:TypeId}{bs:Nat}{u:Ty}{v:Value}{g:Option Nat}{xs:List u.den}{d:Nat}(h:nZ E w w' e u v g xs)(hu:0<u.size)(hb:xs.length*bs≤aG)(hm:xs.length≤aG)(kp:bL E w (E.at d g v (.arr xs.length u)) w'):
 RB (E.at d g v (.arr xs.length u)) w' d (.row e bs u xs)∧RV (E.at d g v (.arr xs.length u)) w' (.own d) v:=by
 rcases h with⟨rfl,rfl,rfl⟩|⟨i,cap,cur,rfl,rfl,h1,h2,h3,h4,h5⟩
 ·refine⟨⟨by simp[Env.at],by simp,by simp,hu,none,0,by simp[Env.at],by simp[maxLen],Or.inl ⟨⟨rfl,rfl⟩,by simp[Env.at],rfl⟩⟩,RV.ef (Or.inr ⟨rfl,by simp[Env.at],none,0,0,by simp[Env.at]⟩)⟩
 ·refine⟨⟨by simp[Env.at],hb,hm,hu,some ⟨i,0,none⟩,cap,by simp[Env.at],h3,Or.inr ⟨i,cur,by simp[Env.at],rfl,h1,h4,h2,aV.mono (fun _ _=>Rel.mono kp.w kp.S) h5⟩⟩,RV.ef (Or.inr ⟨rfl,by simp[Env.at],some ⟨i,0,none⟩,xs.length,cap,by simp[Env.at]⟩)⟩
theorem Ar{P:Program}{G:bR}(T:bD P G){gl:Ctx}{σ:St}{E:Env}{a:Act}{w:World}(h:bX gl σ E a w){hb:Nat→Option aN}(hB:HB hb σ.hp){d:Nat}{t t2 ty:TypeId}{s x:AV}{vs vx:Value}(hs:RV E w s vs)(hx:RV E w x vx){r:fH}
 (he:tT G hb d t t2 s x=some r) (hvc:dC r.vc) (hfr:∀b∈r.fr,σ.fresh b):
 ∃v w' E',(Builtin.append_ #[t,t2] ty #[vs,vx]).run P w= .ok v w'∧bX gl {σ with hp:=aR σ.hp r.hw} E' a w'∧RV E' w' r.v v∧Ext gl.md (Own σ.hp E) E w (Own (aR σ.hp r.hw) E') E' w':=by
 unfold tT at he
 split at he
 ·rename_i td ht
  split at he
  ·rename_i bs u hty
   split at he
   ·rename_i ht2
    have:=bP ht2;subst this
    obtain⟨te,ie,h1,h2,h3,h4,h5,h6,h7⟩:=T.cT ht hty
    split at he
    ·rename_i ys hys
     have hsl:=xY h.hw hB hx hys
     split at he
     ·cases he
      have hbd:ys.length*bs≤aG:=hvc.1
      have hs:=RV.atom rfl hs
      simp[RC] at hs;subst hs
      obtain⟨v',w',g',r1,r2,r3,r4,r5,r6,r7,r8⟩:=tU (P:=P) T (ty:=ty) ht hty (xs:=[]) (g:=none) (Or.inl ⟨rfl,rfl,rfl⟩) hsl (by grind)
      simp only[List.nil_append] at r2
      have kp:bL E w (E.at d g' v' (.arr ys.length u)) w':=⟨fun i hi=>r7 i (h.hw.slt i hi) (by simp),fun _ h=>h⟩
      obtain⟨q1,q2⟩:=nZ.RB (bs:=bs) (d:=d) r2 h6 hbd (dp (Nat.le_mul_of_pos_right _ h7) hbd) kp
      obtain⟨z1,z2⟩:=h.fresh (hfr d (by simp)) (w':=w') (g:=g') (sv:=v') (t:=.arr ys.length u) (k:=.row td.e bs u ys) r3 r4 r5 r6 (fun i hi=>r7 i hi (by simp)) (fun i hi=>(r8 i hi).resolve_left (by simp)) q1
      exact⟨v',w',_,r1,z1,q2,z2⟩
     ·rename_i b
      split at he
      ·rename_i e' bs' u' xs hk
       split at he
       ·rename_i hsame
        split at he
        ·rename_i hc
         simp only[aW,iE] at hc
         have e:=Ty.aB hsame
         subst e
         have:=bP hc.1.1;subst this
         have:=bP hc.1.2;subst this
         have hne:b≠d:=fun e=>by simp_all
         cases he
         have hbd:(xs.length+ys.length)*bs'≤aG:=hvc.1
         have hs:=RV.atom rfl hs
         obtain⟨hs,_⟩:=hs
         simp at hs;subst hs
         have hkb:=hB b _ hk
         obtain⟨b1,b2,b3,b4,ad,cap,b5,b6,b7⟩:=h.hw.cM b _ hkb
         have hrow:nZ E w w td.e u' (E.sv b) (E.g b) xs:=by
          rw[b5]
          rcases b7 with⟨⟨b7,b7'⟩,b8,b9⟩|⟨i,cur,b7,b8,b9,b10,b11,b12⟩
          ·subst b9;subst b7;subst b7';exact Or.inl ⟨rfl,rfl,b8⟩
          ·subst b8;exact Or.inr ⟨i,cap,cur,b7,rfl,b9,b11,b6,b10,b12⟩
         obtain⟨v',w',g',r1,r2,r3,r4,r5,r6,r7,r8⟩:=tU (P:=P) T (ty:=ty) ht hty hrow hsl hbd
         have kp:bL E w (E.at d g' v' (.arr (xs++ys).length u')) w':=⟨fun i hi=>r7 i (h.hw.slt i hi) (fun e=>h.hw.jY b _ i hkb e hi),fun _ h=>h⟩
         have hlen:(xs++ys).length=xs.length+ys.length:=eI
         obtain⟨q1,q2⟩:=nZ.RB (bs:=bs') (d:=d) r2 h6 (by grind) (by rw[hlen];exact dp (Nat.le_mul_of_pos_right _ h7) hbd) kp
         obtain⟨z1,z2⟩:=h.swap (hfr d (by simp)) hkb hne r3 r4 r5 r6 r7 r8 q1
         grind
        grind
       grind
      grind
     grind
    grind
   grind
  grind
 grind
end Go.Ax
namespace Go.Ax
def As:Option AV→Option (Option Int)
 |none=>some none
 |some (.val (.int _) i)=>some (some i)
 |some _=>none
def RO(E:Env)(w:World):Option AV→Option Value→Prop
 |none,none=>True
 |some x,some v=>RV E w x v
 |_,_=>False
def cP(lo hi mx:Option Int)(n:Nat):Nat×Nat×List VC:=
 match lo,hi,mx with
 |none,none,none=>(0,n,[])
 |some l,none,none=>(l.toNat,n,[vc (0≤l),vc (l≤n)])
 |none,some h,none=>(0,h.toNat,[vc (0≤h),vc (h≤n)])
 |some l,some h,none=>(l.toNat,h.toNat,[vc (0≤l),vc (l≤h),vc (h≤n)])
 |none,some h,some m=>(0,h.toNat,[vc (0≤h),vc (h≤m),vc (m≤n)])
 |some l,some h,some m=>(l.toNat,h.toNat,[vc (0≤l),vc (l≤h),vc (h≤m),vc (m≤n)])
 |_,none,some _=>(0,0,[vc False])
theorem sJ{P:Program}{E:Env}{w:World}{lo hi mx:Option AV}{vl vh vm:Option Value}{l h m:Option Int}(hl:RO E w lo vl)(hh:RO E w hi vh)(hm:RO E w mx vm)(el:As lo=some l)(eh:As hi=some h)(em:As mx=some m)
 (IH:Bool) (n cap:Nat) (hn:n≤cap) (hvc:dC (cP l h m n).2.2):
 ∃mm,(Instr.sliceBounds IH n cap vl vh vm).run P w= .ok ((cP l h m n).1,(cP l h m n).2.1,mm) w∧(cP l h m n).1≤(cP l h m n).2.1∧(cP l h m n).2.1≤n∧(cP l h m n).2.1≤mm∧mm≤cap∧(m=none→mm=cap):=by
 have key:∀{x:Option AV}{v:Option Value}{i:Option Int},RO E w x v→As x=some i→(i=none∧v=none)∨∃k j,i=some j∧v=some (.int k j):=by
  intro x v i hr hb
  cases x with
  |
   none=>cases v with
   |none=>cases hb<;>grind
   |some v=>trivial
  |
   some x=>cases v with
   |none=>trivial
   |
    some v=>
    cases x with
    |
     val t y=>
     cases t<;>simp[As] at hb
     rename_i k
     obtain⟨rfl,_⟩:=RV.dk hr
     grind
    |_=>trivial
 rcases key hl el with⟨rfl,rfl⟩|⟨kl,jl,rfl,rfl⟩<;>rcases key hh eh with⟨rfl,rfl⟩|⟨kh,jh,rfl,rfl⟩<;>rcases key hm em with⟨rfl,rfl⟩|⟨km,jm,rfl,rfl⟩
 ·simp_all[Instr.sliceBounds,cP]
 ·exact hvc.1.elim
 ·obtain⟨h1,h2,_⟩:=hvc
  refine⟨cap,?_,by simp[cP],by simp[cP];omega,by simp[cP];omega,dD _,fun _=>rfl⟩
  have b1:(jh:Int)≤cap:=by omega
  simp_all[Instr.sliceBounds,cP,run_sliceBound]
 ·obtain⟨h1,h2,h3,_⟩:=hvc
  refine⟨jm.toNat,?_,by simp[cP],by simp[cP];omega,by simp[cP];omega,by omega,fun h=>by cases h⟩
  have b1:(jm:Int)≤cap:=by omega
  have b2:(jh:Int)≤(jm.toNat:Nat):=by omega
  simp[Instr.sliceBounds,cP,run_sliceBound (P:=P) w km jm cap _ (by omega) b1,run_sliceBound (P:=P) w kh jh jm.toNat _ h1 b2]
 ·obtain⟨h1,h2,_⟩:=hvc
  simp_all[cP,Instr.sliceBounds,run_sliceBound]
 ·exact hvc.1.elim
 ·obtain⟨h1,h2,h3,_⟩:=hvc
  refine⟨cap,?_,by simp[cP];omega,by simp[cP];omega,by simp[cP];omega,dD _,fun _=>rfl⟩
  have b1:(jh:Int)≤cap:=by omega
  have b2:(jl:Int)≤(jh.toNat:Nat):=by omega
  simp[Instr.sliceBounds,cP,run_sliceBound (P:=P) w kh jh cap _ (by omega) b1,run_sliceBound (P:=P) w kl jl jh.toNat _ h1 b2]
 ·obtain⟨h1,h2,h3,h4,_⟩:=hvc
  refine⟨jm.toNat,?_,by simp[cP];omega,by simp[cP];omega,by simp[cP];omega,by omega,fun h=>by cases h⟩
  have b1:(jm:Int)≤cap:=by omega
  have b2:(jh:Int)≤(jm.toNat:Nat):=by omega
  have b3:(jl:Int)≤(jh.toNat:Nat):=by omega
  simp[Instr.sliceBounds,cP,run_sliceBound (P:=P) w km jm cap _ (by omega) b1,run_sliceBound (P:=P) w kh jh jm.toNat _ (by omega) b2,run_sliceBound (P:=P) w kl jl jh.toNat _ h1 b3]
def dG{α:Type}(xs:List α)(l h:Nat):List α:=(xs.drop l).take (h -l)
def Au(G:bR)(hb:Nat→Option aN)(t:TypeId)(x:AV)(l h m:Option Int):Option (AV×List VC):=
 match G.at t with
 |
  some td=>
  match td.ty,x with
  | .slice bs u,.val (.slice bs' u') xs=>if Nat.beq bs bs'&&Ty.same u u' then some (.val (.slice bs' u') (dG xs (cP l h m xs.length).1 (cP l h m xs.length).2.1),(cP l h m xs.length).2.2) else none
  | .slice _ _,.aF=>some (.aF,(cP l h m 0).2.2)
  |
   .slice _ u,.own b=>match hb b,m with
   |some (.row _ _ u' xs),none=>if Ty.same u u' then some (.jV b (cP l h none xs.length).1 ((cP l h none xs.length).2.1 -(cP l h none xs.length).1),(cP l h none xs.length).2.2) else none
   |_,_=>none
  |
   .slice _ u,.jV b lo len=>match hb b,m with
   |some (.row _ _ u' _),none=>if Ty.same u u' then some (.jV b (lo+(cP l h none len).1) ((cP l h none len).2.1 -(cP l h none len).1),(cP l h none len).2.2) else none
   |_,_=>none
  |
   .slice _ u,.jy b p lo len=>match hb b with
   |
    some (.var tt _)=>match tt.sub p with
    |some (.arr _ u')=>if Ty.same u u' then some (.jy b p (lo+(cP l h m len).1) ((cP l h m len).2.1 -(cP l h m len).1),(cP l h m len).2.2) else none
    |_=>none
   |_=>none
  |
   .arr n u,.ptr b p=>match hb b with
   |
    some k=>match(jv k).sub p with
    |some (.arr n' u')=>if Ty.same u u'&&Nat.beq n n' then some (.jy b p (cP l h m n).1 ((cP l h m n).2.1 -(cP l h m n).1),(cP l h m n).2.2) else none
    |_=>none
   |_=>none
  | .arr n u,.cI (.arr n' u') xs=>if Ty.same u u'&&Nat.beq n n'&&Nat.ble (n*td.e2) aG&&Nat.ble n aG then some (.val (.slice td.e2 u') (dG xs (cP l h m n).1 (cP l h m n).2.1),(cP l h m n).2.2) else none
  |
   .str,.val .str s=>match m with
   |none=>some (.val .str (dG s (cP l h none s.length).1 (cP l h none s.length).2.1),(cP l h none s.length).2.2)
   |some _=>none
  |_,_=>none
 |none=>none
def xZ(G:bR)(hb:Nat→Option aN)(t:TypeId)(x:AV)(lo hi mx:Option AV):Option (AV×List VC):=
 match As lo,As hi,As mx with
 |some l,some h,some m=>Au G hb t x l h m
 |_,_,_=>none
theorem Addr.gu(g o k:Nat):((⟨g,o,none⟩:Addr).add k)=⟨g,o+k,none⟩:=by
 unfold Addr.add;grind
theorem gZ{P:Program}{w:World}{t e:TypeId}{sz n cap L H mm:Nat}{a:Option Addr}{vl vh vm:Option Value}(h1:P.underlying t=some (.slice e))(hsz:(sizeOf e).run P w= .ok sz w)(hb:(Instr.sliceBounds true n cap vl vh vm).run P w= .ok (L,H,mm) w):
 (Instr.sliceAt t (.slice a n cap) vl vh vm).run P w= .ok (.slice (if mm=L then a else a.map (·.add (L*sz))) (H -L) (mm -L)) w:=by
 simp[Instr.sliceAt,Instr.slice,underlying,h1,hb,hsz]
theorem pq{P:Program}{w:World}{t e:TypeId}{sz n L H mm:Nat}{a:Addr}{vl vh vm:Option Value}(h1:P.underlying t=some (.array n e))(hsz:(sizeOf e).run P w= .ok sz w)(hb:(Instr.sliceBounds false n n vl vh vm).run P w= .ok (L,H,mm) w):
 (Instr.sliceAt t (.pointer (some a)) vl vh vm).run P w= .ok (.slice (some (if mm=L then a else a.add (L*sz))) (H -L) (mm -L)) w:=by
 simp_all[Instr.sliceAt,Instr.sureAddr,underlying]
theorem B7{P:Program}{G:bR}(T:bD P G){gl:Ctx}{E:Env}{w:World}{hp:List (Option aN)}(hw:HW gl E w hp){hb:Nat→Option aN}(hB:HB hb hp){t:TypeId}{x u:AV}{vx:Value}{lo hi mx:Option AV}{vl vh vm:Option Value}{vc:List VC}
 (hx:RV E w x vx) (hl:RO E w lo vl) (hh:RO E w hi vh) (hm:RO E w mx vm) (he:xZ G hb t x lo hi mx=some (u,vc)) (hvc:dC vc):
 ∃v,(Instr.sliceAt t vx vl vh vm).run P w= .ok v w∧RV E w u v:=by
 unfold xZ at he
 split at he
 ·rename_i l h m el eh em
  have B:=fun IH n cap hn hv=>sJ (P:=P) hl hh hm el eh em IH n cap hn hv
  unfold Au at he
  split at he
  ·rename_i td ht
   split at he
   ·rename_i bs u bs' u' xs hty
    split at he
    ·rename_i hc
     cases he
     simp only[aW] at hc
     have:=bP hc.1;subst this
     have:=Ty.aB hc.2;subst this
     obtain⟨te,ie,h1,h2,h3,h4,h5,h6,h7⟩:=T.cT ht hty
     have hsz:=T.size h2 w
     rw[h3] at hsz
     obtain⟨a,cap,e,q1,q2,q3,q4⟩:=RV.atom rfl hx
     simp at e;subst e
     obtain⟨mm,b1,b2,b3,b4,b5,b6⟩:=B true xs.length cap q1 hvc
     generalize (cP l h m xs.length).1=L at*
     generalize (cP l h m xs.length).2.1=H at*
     refine⟨_,gZ h1 hsz b1,?_⟩
     have hlen:(dG xs L H).length=H -L:=by simp[dG];omega
     refine RV.ef (Or.inr ⟨rfl,_,_,by rw[hlen],by grind,by rw[hlen];exact dp (gB _ (by omega)) q2,by grind,?_⟩)
     rcases ov (H -L) with hz|hz
     ·grind
     ·rcases q4 with q4|⟨b,o,cs,e1,e2,e3,e4⟩
      ·grind
      ·subst e1
       obtain⟨cs',z1,z2⟩:=aV.part e3 e4 L (H -L)
       refine Or.inr ⟨b,o+L*u.size,cs',?_,e2,z1,z2⟩
       rw[aD (by omega)]
       simp[Addr.gu]
    grind
   ·rename_i hty
    cases he
    obtain⟨te,ie,h1,h2,h3,h4,h5,h6,h7⟩:=T.cT ht hty
    have hsz:=T.size h2 w
    have hx:=RV.atom rfl hx
    simp[RC] at hx;subst hx
    obtain⟨mm,b1,b2,b3,b4,b5,b6⟩:=B true 0 0 (dD _) hvc
    generalize (cP l h m 0).1=L at*
    generalize (cP l h m 0).2.1=H at*
    have:L=0:=by omega
    have:H=0:=by omega
    have:mm=0:=by omega
    subst_vars
    exact⟨.slice none 0 0,by rw[gZ h1 hsz b1];simp,RV.ef (Or.inr ⟨rfl,rfl⟩)⟩
   ·rename_i bs u b hty
    split at he
    ·rename_i e0 bs0 u' xs hk
     split at he
     ·rename_i hc
      cases he
      have:=Ty.aB hc;subst this
      obtain⟨te,ie,h1,h2,h3,h4,h5,h6,h7⟩:=T.cT ht hty
      have hsz:=T.size h2 w
      rw[h3] at hsz
      have hx:=RV.atom rfl hx
      obtain⟨hx,_⟩:=hx
      simp at hx;subst hx
      obtain⟨q1,q2,q3,q4,a,cap,q5,q6,q7⟩:=hw.cM b _ (hB b _ hk)
      have hnc:xs.length≤cap:=by
       grind
      obtain⟨mm,b1,b2,b3,b4,b5,b6⟩:=B true xs.length cap hnc hvc
      have:=b6 rfl;subst this
      generalize (cP l h none xs.length).1=L at*
      generalize (cP l h none xs.length).2.1=H at*
      rw[q5]
      refine⟨_,gZ h1 hsz b1,RV.ef (Or.inr ⟨rfl,a,mm,xs.length,u,q1,q5,by omega,hnc,_,rfl,?_⟩)⟩
      by_cases hL:L=0
      ·grind [Addr.gu]
      grind
     grind
    grind
   ·rename_i bs u b lo' len hty
    split at he
    ·rename_i e0 bs0 u' xs hk
     split at he
     ·rename_i hc
      cases he
      have:=Ty.aB hc;subst this
      obtain⟨te,ie,h1,h2,h3,h4,h5,h6,h7⟩:=T.cT ht hty
      have hsz:=T.size h2 w
      rw[h3] at hsz
      obtain⟨a,c,n,tt,r1,r2,r3,r4,a2,e,r6⟩:=RV.atom rfl hx
      simp at e;subst e
      obtain⟨q1,q2,q3,q4,a',cap,q5,q6,q7⟩:=hw.cM b _ (hB b _ hk)
      rw[q1] at r1;cases r1
      obtain⟨mm,b1,b2,b3,b4,b5,b6⟩:=B true len (c -lo') (by omega) hvc
      have:=b6 rfl;subst this
      generalize (cP l h none len).1=L at*
      generalize (cP l h none len).2.1=H at*
      refine⟨_,gZ h1 hsz b1,RV.ef (Or.inr ⟨rfl,a,c,xs.length,u,q1,r2,by omega,r4,_,by rw[Nat.sub_sub],?_⟩)⟩
      by_cases hL:lo'+L=0
      ·have h1:lo'=0:=by omega
       have h2:L=0:=by omega
       subst h1;subst h2
       refine Or.inr ?_
       rcases r6 with r6|r6
       ·grind
       grind [Addr.gu]
      rcases ov (H -L) with hz|hz
      ·grind
      ·refine Or.inr ?_
       rw[aD (by omega)]
       rcases r6 with r6|r6
       ·omega
       ·rw[r6]
        rcases q7 with⟨_,_,q9⟩|⟨g,cc,q7,q8,q9,q10,q11,q12⟩
        ·grind
        grind [Addr.gu]
     grind
    grind
   ·rename_i bs u b p lo' len hty
    split at he
    ·rename_i tt v hk
     split at he
     ·rename_i n u' ahX
      split at he
      ·rename_i hc
       cases he
       have:=Ty.aB hc;subst this
       obtain⟨te,ie,h1,h2,h3,h4,h5,h6,h7⟩:=T.cT ht hty
       have hsz:=T.size h2 w
       rw[h3] at hsz
       obtain⟨n2,t2,r1,r2,r3,a,cap,e,r4,r5⟩:=RV.atom rfl hx
       simp at e;subst e
       obtain⟨q1,_⟩:=hw.cM b _ (hB b _ hk)
       have r1':=r1
       rw[q1,ahX] at r1';cases r1'
       obtain⟨mm,b1,b2,b3,b4,b5,b6⟩:=B true len cap r4 hvc
       generalize (cP l h m len).1=L at*
       generalize (cP l h m len).2.1=H at*
       refine⟨_,gZ h1 hsz b1,RV.ef (Or.inr ⟨rfl,n,u,r1,r2,by omega,_,_,rfl,by omega,?_⟩)⟩
       rcases ov (H -L) with hz|hz
       ·grind
       ·rcases r5 with r5|⟨g,r5,r6⟩
        ·omega
        ·refine Or.inr ⟨g,r5,?_⟩
         rw[aD (by omega),r6]
         simp[Addr.gu,fQ,Nat.add_assoc]
      grind
     grind
    grind
   ·rename_i n u b p hty
    split at he
    ·rename_i kk hk
     split at he
     ·rename_i n' u' ahX
      split at he
      ·rename_i hc
       cases he
       simp only[aW] at hc
       have:=Ty.aB hc.1;subst this
       have:=bP hc.2;subst this
       obtain⟨te,h1,h2,h3⟩:=T.qm ht hty
       have hsz:=T.size h2 w
       rw[h3] at hsz
       obtain⟨g,hg,e,hv⟩:=RV.atom rfl hx
       simp at e;subst e
       have hbt:=RB.bt (hw.cM b kk (hB b kk hk)) (nM (q:=.idx 0) (s:=u) ahX (by simp[Ty.sub,Ty.FK]))
       rw[←hbt] at ahX
       obtain⟨mm,b1,b2,b3,b4,b5,b6⟩:=B false n n (dD _) hvc
       generalize (cP l h m n).1=L at*
       generalize (cP l h m n).2.1=H at*
       refine⟨_,pq h1 hsz b1,RV.ef (Or.inr ⟨rfl,n,u,ahX,hv,by omega,_,_,rfl,by omega,?_⟩)⟩
       rcases ov (H -L) with hz|hz
       ·grind
       ·refine Or.inr ⟨g,hg,?_⟩
        rw[aD (by omega)]
        simp[Addr.gu]
      grind
     grind
    grind
   ·rename_i n u n' u' xs hty
    split at he
    ·rename_i hc
     cases he
     simp only[aW] at hc
     have:=Ty.aB hc.1.1.1;subst this
     have:=bP hc.1.1.2;subst this
     have hc1:=fG hc.1.2
     have hc2:=fG hc.2
     obtain⟨te,h1,h2,h3⟩:=T.qm ht hty
     have hsz:=T.size h2 w
     rw[h3] at hsz
     obtain⟨b,o,cs,e,q1,q2,q3⟩:=RV.atom rfl hx
     simp at e;subst e
     obtain⟨hn,q3⟩:=q3
     obtain⟨mm,b1,b2,b3,b4,b5,b6⟩:=B false n n (dD _) hvc
     generalize (cP l h m n).1=L at*
     generalize (cP l h m n).2.1=H at*
     have hlen:(dG xs L H).length=H -L:=by simp[dG];omega
     refine⟨_,pq h1 hsz b1,RV.ef (Or.inr ⟨rfl,_,_,by rw[hlen],by grind,by rw[hlen];exact dp (gB _ (by omega)) hc1,by grind,?_⟩)⟩
     rcases ov (H -L) with hz|hz
     ·grind
     ·obtain⟨cs',z1,z2⟩:=aV.part q2 q3 L (H -L)
      refine Or.inr ⟨b,o+L*u.size,cs',?_,q1,z1,z2⟩
      rw[aD (by omega)]
      simp[Addr.gu]
    grind
   ·rename_i s hty
    split at he
    ·cases he
     have h1:=T.strOf ht hty
     obtain⟨rfl,h2⟩:=RV.gH hx
     obtain⟨mm,b1,b2,b3,b4,b5,b6⟩:=B false s.length s.length (dD _) hvc
     have hvm:vm=none:=by
      cases vm with
      |none=>rfl
      |
       some v=>
       cases mx with
       |none=>trivial
       |some x=>cases x<;>first|trivial|(rename_i t y;cases t<;>simp[As] at em)
     subst hvm
     generalize (cP l h none s.length).1=L at*
     generalize (cP l h none s.length).2.1=H at*
     refine⟨.string ((⟨s.toArray⟩:ByteArray).extract L H),by simp[Instr.sliceAt,Instr.slice,underlying,h1,tE,b1],?_⟩
     have:(⟨s.toArray⟩:ByteArray).extract L H=⟨(dG s L H).toArray⟩:=by
      apply ByteArray.ext
      grind [ByteArray.data_extract,dG]
     grind [RV.str,dG]
    grind
   grind
  grind
 grind
end Go.Ax
namespace Go.Ax
def lb(G:bR)(d:Nat)(t:TypeId)(l c:Int):Option fH:=
 match G.at t with
 |
  some td=>match td.ty with
  | .slice bs u=>if u.pure then some ⟨.own d,[(d,some (.row td.e bs u (List.replicate l.toNat u.aC)))],[d],[vc (0≤l),vc (l≤c),vc (c*(bs:Int)≤aG)]⟩ else none
  |_=>none
 |none=>none
def ld(G:bR)(d:Nat)(t:TypeId)(l c:Int):Option fH:=
 match G.at t with
 |
  some td=>match td.ty with
  |
   .slice bs (.slice bs2 t2)=>match G.at td.e with
   |some te=>if t2.pure&&Nat.blt 0 t2.size then some ⟨.own d,[(d,some (.da td.e bs (.slice bs2 t2) (List.replicate l.toNat []) te.e none))],[d],[vc (0≤l),vc (l≤c),vc (c*(bs:Int)≤aG)]⟩ else none
   |none=>none
  |_=>none
 |none=>none
def mo(G:bR)(d:Nat)(t:TypeId):AV→AV→Option fH
 |
  .val (.int _) l,.val (.int _) c=>match ld G d t l c with
  |some r=>some r
  |none=>lb G d t l c
 |_,_=>none
theorem tV{w:World}{S:Nat→Prop}{u:Ty}{cs:List Value}{n m:Nat}(h:aV (Rel w S u) cs (List.replicate n u.aC))(hm:m≤n):aV (Rel w S u) (cs.take (m*u.size)) (List.replicate m u.aC):=by
 have:=aV.take (n:=u.size) (fun _ _ h=>Rel.len h) m h
 grind
theorem sK{P:Program}{G:bR}(T:bD P G){gl:Ctx}{σ:St}{E:Env}{a:Act}{w:World}(h:bX gl σ E a w){d:Nat}{t:TypeId}{k k':IntKind}{l c:Int}{r:fH}
 (he:lb G d t l c=some r) (hvc:dC r.vc) (hfr:∀b∈r.fr,σ.fresh b):
 ∃v w' E',(Instr.makeSlice t (.int k l) (.int k' c)).run P w= .ok v w'∧bX gl {σ with hp:=aR σ.hp r.hw} E' a w'∧RV E' w' r.v v∧Ext gl.md (Own σ.hp E) E w (Own (aR σ.hp r.hw) E') E' w':=by
 unfold lb at he
 split at he
 ·rename_i td ht
  split at he
  ·rename_i bs u hty
   split at he
   ·rename_i hpure
    cases he
    obtain⟨v1,v2,v3,_⟩:=hvc
    obtain⟨te,ie,h1,h2,h3,h4,h5,h6,h7⟩:=T.cT ht hty
    obtain⟨i',d',h1i,_,hsz,_,z,hz,hz1,_⟩:=T.info h2
    rw[h4] at h1i;cases h1i
    rw[h3] at hsz hz1
    have hcm:(c:Int)≤aG:=Int.le_trans (by
     have:c*1≤c*(bs:Int):=Int.mul_le_mul_of_nonneg_left (by omega) (by omega)
     omega) v3
    have hb':(ie.bytes:Int)*c≤281474976710656:=by
     grind [aG]
    have ahL:=run_make (P:=P) w t td.e ie z h1 h4 hz k k' l c v1 v2 hb' (by unfold aG at hcm;omega)
    rw[hsz] at ahL
    have ah7:=(fT (E:=E) (w:=w) hz1).2 hpure
    have hmade:=qI ah7 h6 c.toNat z.cells rfl
    have hcells:(madeCells z.cells (c.toNat*u.size))=((Array.range (c.toNat*u.size)).map (z.cells[· % z.cells.size]!)):=by
     trivial
    rw[hcells] at ahL
    have hle:l.toNat≤c.toNat:=by omega
    have hrow:nZ E w (w.alloc (.cells ((Array.range (c.toNat*u.size)).map (z.cells[· % z.cells.size]!)) td.e)) td.e u (.slice (some ⟨w.heap.size,0,none⟩) l.toNat c.toNat) (some w.heap.size) (List.replicate l.toNat u.aC):=by
     refine Or.inr ⟨w.heap.size,c.toNat,_,rfl,by simp,heap_alloc_new w _,by grind,?_,by simp,?_⟩
     ·unfold aG at hcm;unfold maxLen;omega
     grind [tV]
    have kp:bL E w (E.at d (some w.heap.size) (.slice (some ⟨w.heap.size,0,none⟩) l.toNat c.toNat) (.arr (List.replicate l.toNat u.aC).length u)) (w.alloc (.cells ((Array.range (c.toNat*u.size)).map (z.cells[· % z.cells.size]!)) td.e)):=
     ⟨fun b hb=>heap_alloc_old w _ b (h.hw.slt b hb),fun b hb=>hb⟩
    have hlb:l.toNat*bs≤aG:=by
     have:((l.toNat*bs:Nat):Int)≤c*(bs:Int):=by
      rw[Int.natCast_mul]
      exact Int.mul_le_mul_of_nonneg_right (by omega) (by omega)
     omega
    obtain⟨q1,q2⟩:=nZ.RB (bs:=bs) (d:=d) hrow h6 (by grind) (by grind) kp
    obtain⟨z1,z2⟩:=h.fresh (hfr d (by simp)) (w':=w.alloc _) (g:=some w.heap.size) rfl (Tp.r rfl rfl) rfl (by simp) (fun i hi=>heap_alloc_old w _ i hi) (fun i hi=>by grind) q1
    exact⟨_,_,_,ahL,z1,q2,z2⟩
   grind
  grind
 grind
theorem sL{P:Program}{G:bR}(T:bD P G){gl:Ctx}{σ:St}{E:Env}{a:Act}{w:World}(h:bX gl σ E a w){d:Nat}{t:TypeId}{k k':IntKind}{l c:Int}{r:fH}
 (he:ld G d t l c=some r) (hvc:dC r.vc) (hfr:∀b∈r.fr,σ.fresh b):
 ∃v w' E',(Instr.makeSlice t (.int k l) (.int k' c)).run P w= .ok v w'∧bX gl {σ with hp:=aR σ.hp r.hw} E' a w'∧RV E' w' r.v v∧Ext gl.md (Own σ.hp E) E w (Own (aR σ.hp r.hw) E') E' w':=by
 unfold ld at he
 split at he
 ·rename_i td ht
  split at he
  ·rename_i bs bs2 u hty
   split at he
   ·rename_i te hte
    split at he
    ·rename_i hpure
     cases he
     simp only[aW] at hpure
     have hpos:0<u.size:=by simp_all
     obtain⟨v1,v2,v3,_⟩:=hvc
     obtain⟨te',ie,h1,h2,h3,h4,h5,h6,h7⟩:=T.cT ht hty
     obtain⟨i',d',h1i,_,hsz,_,z,hz,hz1,_⟩:=T.info h2
     rw[h4] at h1i;cases h1i
     rw[h3] at hsz hz1
     have hcm:(c:Int)≤aG:=Int.le_trans (by
      have:c*1≤c*(bs:Int):=Int.mul_le_mul_of_nonneg_left (by omega) (by omega)
      omega) v3
     have hb':(ie.bytes:Int)*c≤281474976710656:=by
      grind [aG]
     have ahL:=run_make (P:=P) w t td.e ie z h1 h4 hz k k' l c v1 v2 hb' (by unfold aG at hcm;omega)
     rw[hsz] at ahL
     have hzc:z.cells= #[Value.slice none 0 0]:=by
      cases hl:z.cells.toList with
      |nil=>rw[hl] at hz1;trivial
      |
       cons y ys=>
       cases ys with
       |cons _ _=>rw[hl] at hz1;trivial
       |
        nil=>
        rw[hl] at hz1
        have hz1:isZero (.slice bs2 u) y=true:=hz1
        apply l6
        rw[hl]
        cases y with
        |
         slice a n m=>
         simp_all[isZero]
        |_=>trivial
     have hcells:(madeCells z.cells (c.toNat*(Ty.slice bs2 u).size))=((Array.range c.toNat).map (fun _=>Value.slice none 0 0)):=by
      rw[hzc]
      have:(Ty.slice bs2 u).size=1:=rfl
      simp_all[madeCells,Nat.mod_one]
     rw[hcells] at ahL
     have hlb:l.toNat*bs≤aG:=by
      have:((l.toNat*bs:Nat):Int)≤c*(bs:Int):=by
       rw[Int.natCast_mul]
       exact Int.mul_le_mul_of_nonneg_right (by omega) (by omega)
      omega
     obtain⟨z1,z2⟩:=h.fresh (hfr d (by simp)) (w':=w.alloc (.cells ((Array.range c.toNat).map (fun _=>Value.slice none 0 0)) td.e)) (g:=some w.heap.size) (sv:=.slice (some ⟨w.heap.size,0,none⟩) l.toNat c.toNat) (t:=.arr l.toNat (.slice bs2 u))
      (k:=.da td.e bs (.slice bs2 u) (List.replicate l.toNat []) te.e none) rfl (Tp.r rfl rfl) rfl (by simp) (fun i hi=>heap_alloc_old w _ i hi) (fun i hi=>by grind)
      (by
       refine⟨by simp[Env.at,vw],rfl,by grind,by grind,fun i v hv=>(by cases hv),w.heap.size,c.toNat,_,fun _=>none,by simp[Env.at],by unfold aG at hcm;unfold maxLen;omega,by simp[Env.at],heap_alloc_new w _,by simp,by grind,⟨fun i u hu=>(by cases hu),fun i j u hu=>(by cases hu)⟩,?_⟩
       intro i x hx
       rw[List.getElem?_replicate] at hx
       split at hx
       ·rename_i hi
        cases hx
        refine⟨.slice none 0 0,?_,fun v hv=>(by cases hv),fun _=>⟨by simp,by simp,hpos,none,0,rfl,fR _,Or.inl ⟨⟨rfl,rfl⟩,rfl,rfl⟩⟩⟩<;>grind
       grind)
     exact⟨_,_,_,ahL,z1,RV.ef (Or.inr ⟨rfl,by simp[RC,Env.at]⟩),z2⟩
    grind
   grind
  grind
 grind
theorem tW{P:Program}{G:bR}(T:bD P G){gl:Ctx}{σ:St}{E:Env}{a:Act}{w:World}(h:bX gl σ E a w){d:Nat}{t:TypeId}{l c:AV}{vl vc:Value}(hl:RV E w l vl)(hc:RV E w c vc){r:fH}
 (he:mo G d t l c=some r) (hvc:dC r.vc) (hfr:∀b∈r.fr,σ.fresh b):
 ∃v w' E',(Instr.makeSlice t vl vc).run P w= .ok v w'∧bX gl {σ with hp:=aR σ.hp r.hw} E' a w'∧RV E' w' r.v v∧Ext gl.md (Own σ.hp E) E w (Own (aR σ.hp r.hw) E') E' w':=by
 unfold mo at he
 split at he
 ·obtain⟨rfl,_⟩:=RV.dk hl
  obtain⟨rfl,_⟩:=RV.dk hc
  split at he
  ·rename_i hp
   cases he
   exact sL T h hp hvc hfr
  ·exact sK T h he hvc hfr
 grind
def bytesOf(s:List UInt8):List Int:=s.map fun b=>(b.toNat:Int)
def strOf(xs:List Int):List UInt8:=xs.map fun n=>UInt8.ofNat n.toNat
def ya(G:bR)(hb:Nat→Option aN)(s d:TypeId)(x:AV):Option AV:=
 match G.at s,G.at d with
 |
  some ts,some td=>match ts.ty,td.ty,x with
  | .str,.slice 1 (.int .u8),.val .str y=>(match G.at td.e with|some te=>if Ty.same te.ty (.int .u8) then some (.val (.slice 1 (.int .u8)) (bytesOf y)) else none|none=>none)
  | .str,.str,.val .str y=>some (.val .str y)
  | .slice 1 (.int .u8),.str,x=>(HM hb 1 (.int .u8) x).map fun xs=>.val .str (strOf xs)
  |_,_,_=>none
 |_,_=>none
theorem bX.PO{gl:Ctx}{σ:St}{E:Env}{a:Act}{w w':World}(h:bX gl σ E a w)(hos:w'.os=w.os)(hta:Tp gl.md w w')(hou:w'.output=w.output)(hsz:w'.heap.size=w.heap.size+1)(hold:∀i,i<w.heap.size→w'.heap[i]? =w.heap[i]?):
 bX gl σ {E with S:=fun i=>E.S i∨i=w.heap.size} a w'∧Ext gl.md (Own σ.hp E) E w (Own σ.hp {E with S:=fun i=>E.S i∨i=w.heap.size}) {E with S:=fun i=>E.S i∨i=w.heap.size} w':=by
 have kp:bL E w {E with S:=fun i=>E.S i∨i=w.heap.size} w':=⟨fun b hb=>hold b (h.hw.slt b hb),fun b hb=>Or.inl hb⟩
 have hw:HW gl {E with S:=fun i=>E.S i∨i=w.heap.size} w' σ.hp:=by
  refine⟨fun b k hb=>RB.mono kp (fun _ _=>⟨rfl,rfl,rfl⟩) (fun g hg=>hold g (Own.below h.hw ⟨b,k,hb,hg⟩)) (fun _ _ h=>h) (h.hw.cM b k hb),h.hw.dW,?_,?_,h.hw.gj kp,fun b k g hb hg=>by have:=h.hw.sh b k g hb hg;omega⟩
  ·rintro b k g hb hg (hs|hs)
   ·exact h.hw.du b k g hb hg hs
   ·have:=Own.below h.hw ⟨b,k,hb,hg⟩;omega
  ·rintro g (hs|hs)
   ·have:=h.hw.slt g hs;omega
   ·omega
 refine⟨h.carry kp (fun _ _=>⟨rfl,rfl,rfl⟩) hw,hos,hta,hou,by omega,fun g hg _=>hold g hg,fun g hg=>Or.inl hg,?_,fun g hg=>Or.inl hg,fun _ _=>⟨rfl,rfl,rfl⟩⟩<;>grind
theorem wQ{w:World}{S:Nat→Prop}:∀(l:List UInt8),aV (Rel w S (.int .u8)) (l.map fun b=>Value.int .u8 (b.toNat:Int)) (bytesOf l)
 |[]=>rfl
 |b::l=>⟨[.int .u8 (b.toNat:Int)],l.map fun b=>Value.int .u8 (b.toNat:Int),rfl,⟨rfl,by
  have h1:IntKind.u8.min=0:=by decide
  have h2:IntKind.u8.max=255:=by decide
  have:=b.toNat_lt
  grind⟩,wQ l⟩
theorem tX{w:World}{S:Nat→Prop}:∀{xs:List Int}{cs:List Value},aV (Rel w S (.int .u8)) cs xs→cs=(strOf xs).map fun b=>Value.int .u8 (b.toNat:Int)
 |[],cs,h=>h
 |
  x::xs,cs,⟨v1,v2,e,h1,h2⟩=>by
  obtain⟨h3,h4,h5⟩:=h1
  subst e;subst h3
  rw[tX h2]
  have a1:IntKind.u8.min=0:=by decide
  have a2:IntKind.u8.max=255:=by decide
  have h4:(0:Int)≤x:=by grind
  have h5:x≤255:=by grind
  have:((UInt8.ofNat x.toNat).toNat:Int)=x:=by
   grind [UInt8.toNat_ofNat']
  show _= [Value.int .u8 ((UInt8.ofNat x.toNat).toNat:Int)]++_
  rw[this];rfl
theorem B8{P:Program}{G:bR}(T:bD P G){gl:Ctx}{σ:St}{E:Env}{a:Act}{w:World}(h:bX gl σ E a w){hb:Nat→Option aN}(hB:HB hb σ.hp){s d:TypeId}{x r:AV}{vx:Value}(hx:RV E w x vx)(he:ya G hb s d x=some r):
 ∃v w' E',(convert s d vx).run P w= .ok v w'∧bX gl σ E' a w'∧RV E' w' r v∧Ext gl.md (Own σ.hp E) E w (Own σ.hp E') E' w':=by
 unfold ya at he
 split at he
 ·rename_i ts td hs hd
  split at he
  ·rename_i y h1 h2
   split at he
   ·rename_i te hte
    split at he
    ·rename_i hsame
     cases he
     obtain⟨rfl,hy⟩:=RV.gH hx
     have u1:=T.strOf hs h1
     obtain⟨te',ie,u2,u3,u4,u5,u6,_⟩:=T.cT hd h2
     have u7:=T.intOf u3 u4
     have hr:=run_bytes_of_string (P:=P) w s d td.e ⟨y.toArray⟩ u1 u2 u7
     obtain⟨g1,g2⟩:=h.PO (w':=w.drew.alloc (.cells (bytesRow ⟨y.toArray⟩ (grownCap w (ByteArray.size ⟨y.toArray⟩) 0 td.e)) td.e ((bytesRow ⟨y.toArray⟩ (grownCap w (ByteArray.size ⟨y.toArray⟩) 0 td.e)).size,(bytesRow ⟨y.toArray⟩ (grownCap w (ByteArray.size ⟨y.toArray⟩) 0 td.e)).size+1))) rfl (Tp.s rfl rfl) rfl (by simp) (fun i hi=>heap_alloc_old w.drew _ i hi)
     refine⟨_,_,_,hr,g1,?_,g2⟩
     have hge:=grownCap_ge w (ByteArray.size ⟨y.toArray⟩) 0 td.e
     have hl:(bytesOf y).length=y.length:=by simp[bytesOf]
     refine RV.ef (Or.inr ⟨rfl,some ⟨w.heap.size,0,none⟩,_,by rw[hl,tE],by rw[hl,←tE];exact hge,by grind,by grind,Or.inr ⟨w.heap.size,0,y.map fun b=>Value.int .u8 (b.toNat:Int),rfl,Or.inr rfl,?_,wQ y⟩⟩)
     intro j v hj
     rw[Addr.gu,dY]
     have hc:=World.cell?_alloc_mark w.drew (bytesRow ⟨y.toArray⟩ (grownCap w (ByteArray.size ⟨y.toArray⟩) 0 td.e)) td.e ((bytesRow ⟨y.toArray⟩ (grownCap w (ByteArray.size ⟨y.toArray⟩) 0 td.e)).size,(bytesRow ⟨y.toArray⟩ (grownCap w (ByteArray.size ⟨y.toArray⟩) 0 td.e)).size+1) j
     rw[show w.drew.heap.size=w.heap.size from rfl] at hc
     grind [bytesRow_at]
    grind
   grind
  ·rename_i y h1 h2
   cases he
   obtain⟨rfl,hy⟩:=RV.gH hx
   have u1:=T.strOf hs h1
   have u2:=T.strOf hd h2
   exact⟨_,w,E,by simp[convert,underlying,u1,u2],h,hx,Ext.refl _ _ _⟩
  ·rename_i h1 h2
   obtain⟨xs,hxs,rfl⟩:=Option.map_eq_some_iff.1 he
   obtain⟨ad,cap,rfl,q1,q2,q3,q4⟩:=xY h.hw hB hx hxs
   obtain⟨te,ie,u1,u2,u3,u4,u5,_⟩:=T.cT hs h1
   have u6:=T.intOf u2 u3
   have u7:=T.strOf hd h2
   have hl:(strOf xs).length=List.length xs:=by simp[strOf]
   refine⟨.string ⟨(strOf xs).toArray⟩,w,E,?_,h,RV.str (by grind),Ext.refl _ _ _⟩
   rcases q4 with q4|⟨g,o,cs,rfl,q5,q6⟩
   ·subst q4
    cases ad with
    |none=>simp[convert,underlying,u1,u6,u7,Conv.bytesToString,strOf];rfl
    |
     some ad=>
     grind [run_convert_bytes_back]
   ·have hcs:=tX q6
    have:=run_convert_bytes_back (P:=P) w s d ts.e ⟨g,o,none⟩ cap (strOf xs) u1 u6 u7 (fun j hj=>by
     refine q5 j _ ?_<;>grind)
    grind
  grind
 grind
end Go.Ax
namespace Go.Ax
def HN{α:Type}(xs ys:List α)(lo:Nat):List α:=xs.take lo++ys++xs.drop (lo+ys.length)
theorem KV{α:Type}{xs ys:List α}{lo:Nat}(h:lo+ys.length≤xs.length):(HN xs ys lo).length=xs.length:=by
 grind [HN]
theorem aV.HN{α:Type}{r:List Value→α→Prop}{n:Nat}(hn:∀vs x,r vs x→vs.length=n){xs ys:List α}{cs us:List Value}{lo:Nat}(hx:aV r cs xs)(hy:aV r us ys):
 aV r (cs.take (lo*n)++us++cs.drop ((lo+ys.length)*n)) (Ax.HN xs ys lo):=
 aV.append (aV.append (aV.take hn lo hx) hy) (aV.drop hn (lo+ys.length) hx)
theorem PQ{α:Type}(cs us:List α)(o m a:Nat)(_h:o+m≤cs.length)(ha:a+us.length≤m):
 cs.take o++(((cs.drop o).take m).take a++us++((cs.drop o).take m).drop (a+us.length))++cs.drop (o+m)=cs.take (o+a)++us++cs.drop (o+a+us.length):=by
 have h1:((cs.drop o).take m).take a=(cs.drop o).take a:=by grind
 have h2:((cs.drop o).take m).drop (a+us.length)++cs.drop (o+m)=cs.drop (o+a+us.length):=by
  rw[l7,kj]
  have:cs.drop (o+m)=(cs.drop (o+(a+us.length))).drop (m -(a+us.length)):=by rw[kj];grind
  grind [kT]
 grind
theorem HO{P:Program}{gl:Ctx}{σ:St}{E:Env}{a:Act}{w:World}(h:bX gl σ E a w){b:Nat}{tt:Ty}{v v':AV}(hb:σ.hp[b]? =some (some (.var tt v))){p:Path}(hv:(E.bt b).valid p){n:Nat}{u:Ty}{xs:List u.den}
 (hg:v.get p=some (.val (.arr n u) xs)) {ys:List u.den} {us:List Value} (hu:aV (Rel w E.S u) us ys) {lo:Nat} (hlo:lo+ys.length≤n) (hs:v.set p (.val (.arr n u) (HN xs ys lo))=some v') (hc:v'.cE tt=true):
 ∃g w',E.g b=some g∧(storeCells ⟨g,(E.bt b).off p+lo*u.size,none⟩ us 0).run P w= .ok () w'∧bX gl {σ with hp:=σ.hp.set b (some (.var tt v'))} E a w'∧Ext gl.md (Own σ.hp E) E w (Own (σ.hp.set b (some (.var tt v'))) E) E w':=by
 have hk:=h.hw.cM b _ hb
 obtain⟨h1,h2,g,c,e,h3,h4,h5⟩:=hk
 rw[h1] at hv ⊢
 obtain⟨s,q1,q2,q3,q4⟩:=AV.fy h5 h2 hv hg
 have hse:s= .arr n u:=(Ty.aB (by trivial)).symm
 subst hse
 obtain⟨hxl,hxr⟩:=q4
 have hul:us.length=ys.length*u.size:=aV.len (fun _ _ h=>Rel.len h) hu
 have hnew:RC E w (.val (.arr n u) (HN xs ys lo)) ((((c.toList.drop (tt.off p)).take (n*u.size)).take (lo*u.size))++us++(((c.toList.drop (tt.off p)).take (n*u.size)).drop ((lo+ys.length)*u.size))):=
  ⟨by grind [KV],aV.HN (fun _ _ h=>Rel.len h) hxr hu⟩
 have hnl:=RC.len hnew
 obtain⟨s',p1,p2,p3,p4⟩:=AV.lJ hnew h5 h2 hv (fun s' hs'=>by rw[q1] at hs';cases hs';exact hnl) hs
 rw[q1] at p1;cases p1
 have hm:lo*u.size+us.length≤n*u.size:=by rw[hul,←fQ];exact gB _ hlo
 have hsz:(Ty.arr n u).size=n*u.size:=rfl
 rw[hsz] at p3 p4
 have hcs:=PQ c.toList us (tt.off p) (n*u.size) (lo*u.size) p3 hm
 rw[show(lo+ys.length)*u.size=lo*u.size+us.length from by grind] at p4
 rw[hcs] at p4
 rw[nW] at p3
 have hst:=run_storeCells_at P g (tt.off p+lo*u.size) e us 0 c w h4 (by omega) (aV.cells_one hu)
 have kp:bL E w E (w.setRow g (c.toList.take (tt.off p+lo*u.size+0)++us++c.toList.drop (tt.off p+lo*u.size+0+us.length)).toArray):=
  ⟨fun i hi=>setRow_other w g i _ (fun e=>h.hw.jY b _ g hb h3 (e▸hi)),fun _ h=>h⟩
 have hrb:RB E (w.setRow g (c.toList.take (tt.off p+lo*u.size+0)++us++c.toList.drop (tt.off p+lo*u.size+0+us.length)).toArray) b (.var tt v'):=
  ⟨h1,hc,g,_,e,h3,setRow_heap w g c _ e _ h4,by simpa using RC.mono kp (fun _ _=>⟨rfl,rfl,rfl⟩) p4⟩
 have hw2:=h.hw.write hb (by simp) (fun i hi=>setRow_other w g i _ (fun e=>hi (by grind))) hrb
 refine⟨g,_,h3,hst,h.carry kp (fun _ _=>⟨rfl,rfl,rfl⟩) hw2,⟨rfl,Tp.r rfl rfl,rfl,by simp,?_,fun _ h=>h,fun _ h=>Or.inl h,fun i hi=>Or.inl (Own.na hb hi),fun _ _=>⟨rfl,rfl,rfl⟩⟩⟩
 intro i hi ho
 exact setRow_other w g i _ (fun e=>ho ⟨b,_,hb,by rw[e];exact Or.inl h3⟩)
def Et(hb:Nat→Option aN)(b:Nat)(p:Path):Option ((_tt:Ty)×AV×(_n:Nat)×(u:Ty)×List u.den):=
 match hb b with
 |
  some (.var tt v)=>match v.get p with
  |some (.val (.arr n u) xs)=>some ⟨tt,v,n,u,xs⟩
  |_=>none
 |_=>none
def B9(G:bR)(hb:Nat→Option aN)(t:TypeId)(x y:AV):Option fH:=
 match G.at t with
 |
  some td=>match td.ty,x with
  |
   .slice bs u,.jy b p lo len=>match Et hb b p with
   |
    some ⟨tt,v,n,u',xs⟩=>match HM hb bs u' y with
    |
     some ys=>match v.set p (.val (.arr n u') (HN xs (ys.take (min ys.length len)) lo)) with
     |some v'=>if Ty.same u u'&&v'.cE tt&&Nat.ble n aG then some ⟨jw (min ys.length len),[(b,some (.var tt v'))],[],[]⟩ else none
     |none=>none
    |none=>none
   |none=>none
  |_,_=>none
 |none=>none
theorem GD{P:Program}{G:bR}(T:bD P G){gl:Ctx}{σ:St}{E:Env}{a:Act}{w:World}(h:bX gl σ E a w){hb:Nat→Option aN}(hB:HB hb σ.hp){t t2 ty:TypeId}{x y:AV}{vx vy:Value}(hx:RV E w x vx)(hy:RV E w y vy){r:fH}(he:B9 G hb t x y=some r):
 ∃v w',(Builtin.copy_ #[t,t2] ty #[vx,vy]).run P w= .ok v w'∧bX gl {σ with hp:=aR σ.hp r.hw} E a w'∧RV E w' r.v v∧Ext gl.md (Own σ.hp E) E w (Own (aR σ.hp r.hw) E) E w':=by
 unfold B9 at he
 split at he
 ·rename_i td ht
  split at he
  ·rename_i bs u b p lo len hty
   split at he
   ·rename_i tt v n u' xs ah4
    split at he
    ·rename_i ys hys
     split at he
     ·rename_i v' aR
      split at he
      ·rename_i hc
       cases he
       simp only[aW] at hc
       obtain⟨⟨c1,c2⟩,c3⟩:=hc
       have e:=Ty.aB c1;subst e
       unfold Et at ah4
       split at ah4
       ·rename_i tt0 v0 hbk
        split at ah4
        ·rename_i n0 u0 xs0 ahQ
         cases ah4
         obtain⟨te,ie,h1,h2,h3,h4,h5,h6,h7⟩:=T.cT ht hty
         obtain⟨i',d',h1i,_,hsz,_⟩:=T.info h2
         rw[h4] at h1i;cases h1i
         rw[h3] at hsz
         obtain⟨n1,t1,r1,r2,r3,ad,cap,rx,r4,r5⟩:=RV.atom rfl hx
         simp at rx;subst rx
         have hbt:E.bt b=tt:=(h.hw.cM b _ (hB b _ hbk)).1
         have hr1:n1=n∧t1=u:=by
          obtain⟨q1,q2,g,c,e,q3,q4,q5⟩:=h.hw.cM b _ (hB b _ hbk)
          rw[hbt] at r1 r2
          obtain⟨s,z1,z2,_⟩:=AV.fy q5 q2 r2 ahQ
          have hse:=(Ty.aB (by simpa[AV.cE] using z2)).symm
          rw[hse] at z1
          rw[z1] at r1;cases r1;exact⟨rfl,rfl⟩
         obtain⟨e1,e2⟩:=hr1;subst e1;subst e2
         obtain⟨ay,cy,ry,ry1,ry2,ry3,ry4⟩:=xY h.hw hB hy hys
         subst ry
         have hk:(ys.take (min ys.length len)).length=min ys.length len:=by grind
         have hnm:=fG c3
         rcases ov (min ys.length len) with hz|hz
         ·
          have hy0:ys.take (min ys.length len)= []:=xz (by omega)
          have hspl:HN xs (ys.take (min ys.length len)) lo=xs:=by rw[hy0];simp[HN]
          obtain⟨g,w',w1,w2,w3,w4⟩:=HO (P:=P) h (hB b _ hbk) r2 ahQ (ys:=ys.take (min ys.length len)) (us:=[]) (by rw[hy0];rfl) (lo:=lo) (by omega) aR c2
          have hw':w'=w:=by simp[storeCells] at w2;grind
          subst hw'
          have ahL:(Builtin.copy_ #[t,t2] ty #[.slice ad len cap,.slice ay ys.length cy]).run P w'= .ok (goInt ((min ys.length len:Nat):Int)) w':=by
           have hz':Nat.min ys.length len=0:=hz
           have hf:∀ay:Option Addr,(Builtin.firstCells ie.size 0 (.slice ay ys.length cy)).run P w'= .ok #[] w':=by
            intro ay
            cases ay with
            |none=>trivial
            |some a=>grind [run_firstCells_some]
           have hz2:((min ys.length len:Nat):Int)=0:=by grind
           have hmin:Nat.min ys.length len=min ys.length len:=rfl
           simp only[hmin] at hz'
           rw[hz]
           simp[Builtin.copy_,underlying,h1,sizeOf,typeInfo,h4,Builtin.lenOf,hmin,hz,hf]
           cases ad<;>simp[storeCells]
          exact⟨_,w',ahL,w3,RV.len (by omega),w4⟩
         ·have hys0:ys≠[]:=by grind
          rcases ry4 with ry4|⟨gy,oy,cs,ea,hr,ah7⟩
          ·grind
          ·subst ea
           have hl0:len≠0:=by omega
           rcases r5 with r5|⟨gx,rg,ra⟩
           ·grind
           ·subst ra
            have hcl:(cs.take (min ys.length len*t1.size)).length=min ys.length len*ie.size:=by
             have:=aV.len (fun _ _ h=>Rel.len h) ah7
             simp_all
            have hrel':=aV.take (n:=t1.size) (fun _ _ h=>Rel.len h) (min ys.length len) ah7
            obtain⟨g,w',w1,w2,w3,w4⟩:=HO (P:=P) h (hB b _ hbk) r2 ahQ hrel' (lo:=lo) (by omega) aR c2
            rw[rg] at w1;cases w1
            have hf:=run_firstCells_some (P:=P) (w:=w) ie.size (min ys.length len) ⟨gy,oy,none⟩ ys.length cy (cs.take (min ys.length len*t1.size)) hcl (hr.take _)
            have ahL:(Builtin.copy_ #[t,t2] ty #[.slice (some ⟨gx,(E.bt b).off p+lo*t1.size,none⟩) len cap,.slice (some ⟨gy,oy,none⟩) ys.length cy]).run P w= .ok (goInt ((min ys.length len:Nat):Int)) w':=by
             have hmin:Nat.min ys.length len=min ys.length len:=rfl
             simp_all[Builtin.copy_,underlying,sizeOf,typeInfo,Builtin.lenOf]
            exact⟨_,w',ahL,w3,RV.len (by omega),w4⟩
        grind
       grind
      grind
     grind
    grind
   grind
  grind
 grind
def yb(G:bR)(hb:Nat→Option aN)(t:TypeId)(x:AV):Option fH:=
 match G.at t with
 |
  some td=>match td.ty,x with
  |
   .slice _ u,.jy b p lo len=>match Et hb b p with
   |
    some ⟨tt,v,n,u',xs⟩=>match v.set p (.val (.arr n u') (HN xs (List.replicate len u'.aC) lo)) with
    |some v'=>if Ty.same u u'&&v'.cE tt&&u'.pure then some ⟨.bot,[(b,some (.var tt v'))],[],[]⟩ else none
    |none=>none
   |none=>none
  |_,_=>none
 |none=>none
theorem Ca{P:Program}{G:bR}(T:bD P G){gl:Ctx}{σ:St}{E:Env}{a:Act}{w:World}(h:bX gl σ E a w){hb:Nat→Option aN}(hB:HB hb σ.hp){t ty:TypeId}{x:AV}{vx:Value}(hx:RV E w x vx){r:fH}(he:yb G hb t x=some r):
 ∃v w',(Builtin.clear_ #[t] ty #[vx]).run P w= .ok v w'∧bX gl {σ with hp:=aR σ.hp r.hw} E a w'∧RV E w' r.v v∧Ext gl.md (Own σ.hp E) E w (Own (aR σ.hp r.hw) E) E w':=by
 unfold yb at he
 split at he
 ·rename_i td ht
  split at he
  ·rename_i bs u b p lo len hty
   split at he
   ·rename_i tt v n u' xs ah4
    split at he
    ·rename_i v' aR
     split at he
     ·rename_i hc
      cases he
      simp only[aW] at hc
      obtain⟨⟨c1,c2⟩,c3⟩:=hc
      have e:=Ty.aB c1;subst e
      unfold Et at ah4
      split at ah4
      ·rename_i tt0 v0 hbk
       split at ah4
       ·rename_i n0 u0 xs0 ahQ
        cases ah4
        obtain⟨te,ie,h1,h2,h3,h4,h5,h6,h7⟩:=T.cT ht hty
        obtain⟨i',d',h1i,_,hsz,_,z,hz,hz1,_⟩:=T.info h2
        rw[h4] at h1i;cases h1i
        rw[h3] at hsz hz1
        obtain⟨n1,t1,r1,r2,r3,ad,cap,rx,r4,r5⟩:=RV.atom rfl hx
        simp at rx;subst rx
        have hbt:E.bt b=tt:=(h.hw.cM b _ (hB b _ hbk)).1
        have hr1:n1=n∧t1=u:=by
         obtain⟨q1,q2,g,c,e,q3,q4,q5⟩:=h.hw.cM b _ (hB b _ hbk)
         rw[hbt] at r1 r2
         obtain⟨s,z1,z2,_⟩:=AV.fy q5 q2 r2 ahQ
         have hse:=(Ty.aB (by simpa[AV.cE] using z2)).symm
         rw[hse] at z1
         rw[z1] at r1;cases r1;exact⟨rfl,rfl⟩
        obtain⟨e1,e2⟩:=hr1;subst e1;subst e2
        have ah7:=(fT (E:=E) (w:=w) hz1).2 c3
        have hzl:z.cells.size=t1.size:=by grind [nW,Rel.len]
        have hmade:=qI ah7 h6 len z.cells rfl
        obtain⟨g,w',w1,w2,w3,w4⟩:=HO (P:=P) h (hB b _ hbk) r2 ahQ hmade (lo:=lo) (by grind) aR c2
        refine⟨.tuple #[],w',?_,w3,trivial,w4⟩
        rcases ov len with hz0|hz0
        ·subst hz0
         have hw':w'=w:=by simp[storeCells] at w2;grind
         subst hw'
         cases ad<;>simp[Builtin.clear_,underlying,h1]
        ·rcases r5 with r5|⟨gx,rg,ra⟩
         ·omega
         ·subst ra
          rw[rg] at w1;cases w1
          have hzv:(zeroValue td.e).run P w= .ok z w:=by simp[zeroValue,typeInfo,h4,hz]
          obtain⟨m,rfl⟩:∃m,len=m+1:=⟨len -1,by omega⟩
          simp_all[Builtin.clear_,underlying,Builtin.zeroCells]
       grind
      grind
     grind
    grind
   grind
  grind
 grind
end Go.Ax
namespace Go.Ax
def Am{α:Type}(f:α→α→Bool):List α→List α→Bool
 |[],[]=>true
 |x::xs,y::ys=>f x y&&Am f xs ys
 |_,_=>false
def SH{α:Type}(f:List α→List α→Bool):Option (List α)→Option (List α)→Bool
 |none,none=>true
 |some x,some y=>f x y
 |_,_=>false
theorem KW{α:Type}{f:List α→List α→Bool}(hf:∀x y,f x y=true↔x=y):∀(x y:Option (List α)),SH f x y=true↔x=y
 |none,none=>by simp[SH]
 |none,some _=>by simp[SH]
 |some _,none=>by simp[SH]
 |some x,some y=>by simp[SH,hf]
def aY:(t:Ty)→t.den→t.den→Bool
 | .int _,x,y=>decide (@Eq Int x y)
 | .bool,x,y=>decide (@Eq Bool x y)
 | .str,x,y=>decide (@Eq (List UInt8) x y)
 | .arr _ t,x,y=>Am (aY t) x y
 | .slice _ t,x,y=>Am (aY t) x y
 | .pair a b,x,y=>aY a x.1 y.1&&aY b x.2 y.2
 | .unit,_,_=>true
 | .aP _,_,_=>true
 | .fns _,x,y=>decide (@Eq (List (Option Nat)) x y)
 | .map a b,x,y=>SH (Am fun p q=>aY a p.1 q.1&&aY b p.2 q.2) x y
theorem sT{α:Type}{f:α→α→Bool}(hf:∀x y,f x y=true↔x=y):∀(xs ys:List α),Am f xs ys=true↔xs=ys
 |[],[]=>by simp[Am]
 |[],_::_=>by simp[Am]
 |_::_,[]=>by simp[Am]
 |x::xs,y::ys=>by simp[Am,hf,sT hf xs ys]
theorem iG:∀(t:Ty)(x y:t.den),aY t x y=true↔x=y:=by
 intro t
 induction t with
 |int k=>intro x y;simp[aY]
 |bool=>trivial
 |str=>intro x y;simp[aY]
 |arr n t ih=>intro x y;exact sT ih x y
 |slice n t ih=>intro x y;exact sT ih x y
 |pair a b ih1 ih2=>grind [aY]
 |unit=>intro x y;simp[aY]
 |aP k=>intro x y;simp[aY]
 |fns n=>intro x y;simp[aY]
 |map a b ih1 ih2=>intro x y;exact KW (sT (fun p q=>by grind)) x y
def GF(k:TypeId→Ty→Bool):List Field→Ty→Bool
 |[],.unit=>true
 |f::fs,.pair a b=> !(f.name== "_")&&k f.type a&&GF k fs b
 |_,_=>false
def jg(P:Program)(G:bR):Nat→TypeId→Ty→Bool
 |0,_,_=>false
 |
  n+1,t,ty=>match G.at t with
  |
   some td=>Ty.same td.ty ty&&(match ty with
   | .int _| .bool| .str=>true
   | .arr _ u=>jg P G n td.e u
   | .pair a b=> !P.stoodInHeld t&&(match P.underlying t with|some (.struct fs)=>GF (jg P G n) fs.toList (.pair a b)|_=>false)
   |_=>false)
  |none=>false
section
variable{P:Program} {G:bR} (T:bD P G) {E:Env} {w:World}
include T
theorem nr{t:TypeId}{td:TD}(ht:G.at t=some td){x:td.ty.den}{cs:Array Value}{off:Nat}(h:Rel w E.S td.ty ((cs.toList.drop off).take td.ty.size) x)(hl:off+td.ty.size≤cs.size):
 ∃v,(part t cs off).run P w= .ok v w∧cK E w (.val td.ty x) v:=by
 by_cases ha:td.ty.isAgg=true
 ·refine⟨.agg (cs.extract off (off+td.ty.size)),by simp[part,T.isAgg ht,T.size ht,ha],Or.inl ⟨ha,_,rfl,?_⟩⟩
  rw[Array.toList_extract,List.extract_eq_take_drop,qi]
  exact h
 ·have ha':td.ty.isAgg=false:=by grind
  have h1:td.ty.size=1:=by cases h:td.ty<;>rw[h] at ha'<;>simp[Ty.isAgg] at ha'<;>rfl
  rw[h1] at h hl
  have hlt:off<cs.size:=by omega
  refine⟨cs[off],by simp[part,T.isAgg ht,ha',hlt],Or.inr ⟨ha',?_⟩⟩
  have:(cs.toList.drop off).take 1= [cs[off]]:=by
   grind [kU]
  rw[this] at h;exact h
def EqAt(P:Program)(E:Env)(w:World)(d:Nat)(t:TypeId)(ty:Ty):Prop:=
 ∀(x y:ty.den)(vx vy:Value),cK E w (.val ty x) vx→cK E w (.val ty y) vy→(Op.equalIn d t vx vy).run P w= .ok (aY ty x y) w
theorem rN{d:Nat}{k:TypeId→Ty→Bool}(hk:∀t td,G.at t=some td→k t td.ty=true→EqAt P E w d t td.ty){cx cy:Array Value}:
 ∀(fs:List Field)(ty:Ty)(off:Nat)(x y:ty.den),cz G fs off ty=true→GF k fs ty=true→off+ty.size≤cx.size→off+ty.size≤cy.size→
  Rel w E.S ty ((cx.toList.drop off).take ty.size) x→Rel w E.S ty ((cy.toList.drop off).take ty.size) y→(Op.eqFields d cx cy fs).run P w= .ok (aY ty x y) w
 |
  [],ty,off,x,y,hf,he,_,_,_,_=>by
  cases ty<;>simp[cz] at hf
  trivial
 |
  f::fs,ty,off,x,y,hf,he,hlx,hly,hx,hy=>by
  cases ty with
  |
   pair a b=>
   simp only[cz,aW] at hf
   obtain⟨⟨⟨h1,h2⟩,h3⟩,h4⟩:=hf
   simp only[GF,aW,iE,beq_eq_false_iff_ne] at he
   obtain⟨⟨e1,e2⟩,e3⟩:=he
   split at h1
   ·rename_i td htd
    have:=Ty.aB h1;subst this
    have h2:=bP h2
    simp only[Ty.size] at hlx hly hx hy
    obtain⟨v1,v2,ex,hx1,hx2⟩:=hx
    obtain⟨u1,u2,ey,hy1,hy2⟩:=hy
    have lx1:=Rel.len hx1
    have ly1:=Rel.len hy1
    have cut:∀(c:Array Value)(v1 v2:List Value),(c.toList.drop off).take (td.ty.size+b.size)=v1++v2→v1.length=td.ty.size→
     (c.toList.drop off).take td.ty.size=v1∧(c.toList.drop (off+td.ty.size)).take b.size=v2:=by
     intro c v1 v2 e hl
     constructor
     ·have:((c.toList.drop off).take (td.ty.size+b.size)).take td.ty.size=v1:=by grind
      grind
     ·have:((c.toList.drop off).take (td.ty.size+b.size)).drop td.ty.size=v2:=by grind
      rwa [l7,kj,qi] at this
    obtain⟨cx1,cx2⟩:=cut cx v1 v2 ex lx1
    obtain⟨cy1,cy2⟩:=cut cy u1 u2 ey ly1
    rw[←cx1] at hx1;rw[←cx2] at hx2;rw[←cy1] at hy1;rw[←cy2] at hy2
    obtain⟨vx,p1,p2⟩:=nr T htd hx1 (by omega)
    obtain⟨vy,p3,p4⟩:=nr T htd hy1 (by omega)
    have heq:=hk f.type td htd e2 x.1 y.1 vx vy p2 p4
    have hrest:=rN hk fs b (off+td.ty.size) x.2 y.2 h4 e3 (by omega) (by omega) hx2 hy2
    simp only[Op.eqFields,Sem.run_ite,aA e1,Sem.run_bind,h2,p1,p3,Result.andThen_ok,heq]
    cases hq:aY td.ty x.1 y.1 with
    |false=>simp[aY,hq]
    |true=>simp_all[aY]
   grind
  |_=>trivial
theorem tY{d:Nat}{e:TypeId}{te:TD}(hte:G.at e=some te)(hk:EqAt P E w d e te.ty){cx cy:Array Value}:
 ∀(n i:Nat)(xs ys:List te.ty.den),xs.length=n→ys.length=n→(i+n)*te.ty.size≤cx.size→(i+n)*te.ty.size≤cy.size→
  aV (Rel w E.S te.ty) ((cx.toList.drop (i*te.ty.size)).take (n*te.ty.size)) xs→aV (Rel w E.S te.ty) ((cy.toList.drop (i*te.ty.size)).take (n*te.ty.size)) ys→
  (Op.eqItems d e te.ty.size cx cy (List.range' i n)).run P w= .ok (Am (aY te.ty) xs ys) w
 |
  0,i,xs,ys,hx,hy,_,_,_,_=>by
  simp_all[Op.eqItems,Am]
 |
  n+1,i,x::xs,y::ys,hx,hy,hlx,hly,⟨v1,v2,ex,hx1,hx2⟩,⟨u1,u2,ey,hy1,hy2⟩=>by
  have lx1:=Rel.len hx1
  have ly1:=Rel.len hy1
  have hb:(i+(n+1))*te.ty.size=(i+1+n)*te.ty.size:=by grind
  have hb2:(i+1+n)*te.ty.size=i*te.ty.size+te.ty.size+n*te.ty.size:=by grind
  have cut:∀(c:Array Value)(v1 v2:List Value),(c.toList.drop (i*te.ty.size)).take ((n+1)*te.ty.size)=v1++v2→v1.length=te.ty.size→
   (c.toList.drop (i*te.ty.size)).take te.ty.size=v1∧(c.toList.drop ((i+1)*te.ty.size)).take (n*te.ty.size)=v2:=by
   intro c v1 v2 e hl
   have hn:(n+1)*te.ty.size=te.ty.size+n*te.ty.size:=by grind
   rw[hn] at e
   constructor
   ·have:((c.toList.drop (i*te.ty.size)).take (te.ty.size+n*te.ty.size)).take te.ty.size=v1:=by grind
    grind
   ·have:((c.toList.drop (i*te.ty.size)).take (te.ty.size+n*te.ty.size)).drop te.ty.size=v2:=by grind
    rwa [l7,kj,qi,show i*te.ty.size+te.ty.size=(i+1)*te.ty.size from by grind] at this
  obtain⟨cx1,cx2⟩:=cut cx v1 v2 ex lx1
  obtain⟨cy1,cy2⟩:=cut cy u1 u2 ey ly1
  rw[←cx1] at hx1;rw[←cx2] at hx2;rw[←cy1] at hy1;rw[←cy2] at hy2
  obtain⟨vx,p1,p2⟩:=nr T hte hx1 (by omega)
  obtain⟨vy,p3,p4⟩:=nr T hte hy1 (by omega)
  have heq:=hk x y vx vy p2 p4
  have hrest:=tY hte hk n (i+1) xs ys (by grind) (by grind) (by omega) (by omega) hx2 hy2
  rw[List.range'_succ]
  simp only[Op.eqItems,Sem.run_bind,p1,p3,Result.andThen_ok,heq]
  cases hq:aY te.ty x y with
  |false=>simp[Am,hq]
  |true=>simp_all[Am]
 |n+1,i,[],_,hx,_,_,_,_,_=>by grind
 |n+1,i,_::_,[],_,hy,_,_,_,_=>by grind
theorem sU(d:Nat):∀(n:Nat)(t:TypeId)(td:TD),G.at t=some td→jg P G n t td.ty=true→EqAt P E w (d+n) t td.ty
 |0,t,td,ht,h=>by simp[jg] at h
 |
  n+1,t,td,ht,h=>by
  have ih:=fun t td ht h=>sU d n t td ht h
  unfold jg at h
  rw[ht] at h
  simp only[aW] at h
  obtain⟨_,h⟩:=h
  intro x y vx vy hx hy
  rw[show d+(n+1)=(d+n)+1 from rfl]
  obtain⟨ty,te,te2⟩:=td
  simp only at h x y hx hy
  cases ty with
  |
   int k=>
   have hu:=T.intOf ht rfl
   obtain⟨rfl,_⟩:=RV.dk (RV.ef hx)
   obtain⟨rfl,_⟩:=RV.dk (RV.ef hy)
   rw[run_equalIn_int w (d+n) t k k _ _ hu]
   simp[aY];rfl
  |
   bool=>
   have hu:P.underlying t=some .bool:=by
    obtain⟨ii,dd,_,h1,_,h2,_⟩:=T.info ht
    have ahE:=dt h2
    rw[h1]
    cases hd:dd with
    |bool=>rfl
    |struct fs=>subst hd;simp[dx,Ty.isAgg] at ahE
    |array n e=>subst hd;simp[dx,Ty.isAgg] at ahE
    |slice e=>subst hd;simp[cG,Ty.same] at h2
    |map k e=>subst hd;simp[cG,Ty.same] at h2
    |_=>subst hd;simp[cG,Ty.same] at h2
   have:=RV.eC (RV.ef hx);subst this
   have:=RV.eC (RV.ef hy);subst this
   rw[run_equalIn_bool' w (d+n) t _ _ hu]
   simp[aY];rfl
  |
   str=>
   have hu:=T.strOf ht rfl
   obtain⟨rfl,_⟩:=RV.gH (RV.ef hx)
   obtain⟨rfl,_⟩:=RV.gH (RV.ef hy)
   rw[run_equalIn_string w (d+n) t _ _ hu]
   have:∀(a b:List UInt8),(a==b)=decide (a=b):=fun a b=>by
    by_cases h:a=b
    ·subst h;simp
    ·simp[h]
   simp only[ByteArray.toList_mk,aY]
   exact congrArg (fun b=>Result.ok b w) (this x y)
  |
   arr m u=>
   obtain⟨tde,h1,h2,h3⟩:=T.qm ht rfl
   simp only at h h1 h2 h3
   subst h3
   have hk:=ih te tde h2 h
   obtain⟨ie,_,hi,_,hsz,_⟩:=T.info h2
   rcases hx with⟨_,cx,rfl,hx1,hx2⟩|⟨hx,_⟩
   ·rcases hy with⟨_,cy,rfl,hy1,hy2⟩|⟨hy,_⟩
    ·rw[run_equalIn_array w (d+n) cx cy h1 hi]
     have hcell:P.cellsOf te=tde.ty.size:=by simp[Program.cellsOf,hi,hsz]
     rw[hcell,List.range_eq_range']
     have lx:=aV.len (n:=tde.ty.size) (fun _ _ h=>Rel.len h) hx2
     have ly:=aV.len (n:=tde.ty.size) (fun _ _ h=>Rel.len h) hy2
     rw[nW] at lx ly
     rw[hx1] at lx;rw[hy1] at ly
     refine tY T h2 hk m 0 x y hx1 hy1 (by rw[dY,lx];exact dD _) (by rw[dY,ly];exact dD _) ?_ ?_
     ·simp only[Nat.zero_mul,iC];rw[gR (by simp[lx])];exact hx2
     ·simp only[Nat.zero_mul,iC];rw[gR (by simp[ly])];exact hy2
    ·simp[AV.isAgg,Ty.isAgg] at hy
   ·simp[AV.isAgg,Ty.isAgg] at hx
  |
   pair a b=>
   obtain⟨fs,h1,h2⟩:=T.structOf ht rfl
   simp only[aW,h1] at h
   obtain⟨e1,e2⟩:=h
   have hfo:P.fieldsOf t=fs:=by simp[Program.fieldsOf,h1]
   rcases hx with⟨_,cx,rfl,hx⟩|⟨hx,_⟩
   ·rcases hy with⟨_,cy,rfl,hy⟩|⟨hy,_⟩
    ·rw[run_equalIn_struct w (d+n) t cx cy (by rw[hfo];exact h1) (by simpa using e1),hfo]
     have lx:=Rel.len hx
     have ly:=Rel.len hy
     rw[nW] at lx ly
     refine rN T ih fs.toList (.pair a b) 0 x y h2 e2 (by omega) (by omega) ?_ ?_
     ·rw[iC,gR (by simp[lx])];exact hx
     ·rw[iC,gR (by simp[ly])];exact hy
    ·simp[AV.isAgg,Ty.isAgg] at hy
   ·simp[AV.isAgg,Ty.isAgg] at hx
  |_=>simp at h
end
def PR(P:Program)(G:bR)(op:BinOp)(t:TypeId):AV→AV→Option (AV×List VC)
 |
  .val u x,.val v y=>match G.at t with
  |
   some td=>if h:Ty.same u td.ty&&Ty.same v td.ty&&td.ty.isAgg then(match op with
   | .eql=>some (.val .bool (aY td.ty (Ty.aB (by simp at h;exact h.1.1)▸x) (Ty.aB (by simp at h;exact h.1.2)▸y)),[vc (jg P G 40 t td.ty=true),vc (P.eqGuardType P.depth t=false)])
   | .neq=>some (.val .bool (!aY td.ty (Ty.aB (by simp at h;exact h.1.1)▸x) (Ty.aB (by simp at h;exact h.1.2)▸y)),[vc (jg P G 40 t td.ty=true),vc (P.eqGuardType P.depth t=false)])
   |_=>none) else none
  |none=>none
 |_,_=>none
theorem KX{P:Program}{G:bR}(T:bD P G){E:Env}{w:World}{op:BinOp}{t:TypeId}{x y:AV}{vx vy:Value}{ox oy:Operand}{r:AV}{vc:List VC}(hx:RV E w x vx)(hy:RV E w y vy)(h:PR P G op t x y=some (r,vc))(hvc:dC vc):
 (eqGuard op t ox oy vx vy).run P w= .ok () w∧∃v,(binOp op t vx vy).run P w= .ok v w∧RV E w r v:=by
 unfold PR at h
 split at h
 ·rename_i u x v y
  split at h
  ·rename_i td ht
   split at h
   ·rename_i hc
    simp only[aW] at hc
    have e1:=Ty.aB hc.1.1
    have e2:=Ty.aB hc.1.2
    subst e1;subst e2
    have hx0:cK E w (.val td.ty x) vx:=RV.jD rfl hx
    have hy0:cK E w (.val td.ty y) vy:=RV.jD rfl hy
    have main:jg P G 40 t td.ty=true→P.eqGuardType P.depth t=false→∃cx cy,vx= .agg cx∧vy= .agg cy∧(Op.equalIn 10000 t vx vy).run P w= .ok (aY td.ty x y) w:=by
     intro q1 _
     have:=sU T (E:=E) (w:=w) 9960 40 t td ht q1 x y vx vy hx0 hy0
     rcases hx0 with⟨_,cx,ex,_⟩|⟨hq,_⟩
     ·rcases hy0 with⟨_,cy,ey,_⟩|⟨hq,_⟩
      ·grind
      ·simp[AV.isAgg,hc.2] at hq
     ·simp[AV.isAgg,hc.2] at hq
    split at h
    ·cases h
     obtain⟨q1,q2,_⟩:=hvc
     obtain⟨cx,cy,rfl,rfl,q3⟩:=main q1 q2
     simp_all[run_eqGuard_agg,run_eql_struct,RV.bool]
    ·cases h
     obtain⟨q1,q2,_⟩:=hvc
     obtain⟨cx,cy,rfl,rfl,q3⟩:=main q1 q2
     simp_all[run_eqGuard_agg,run_neq_struct,RV.bool]
    grind
   grind
  grind
 grind
end Go.Ax
namespace Go.Ax
def dO{α:Type}(kt:Ty)(k:kt.den):List (kt.den×α)→Nat→Option (Nat×α)
 |[],_=>none
 |e::es,i=>if aY kt k e.1 then some (i,e.2) else dO kt k es (i+1)
def de{α:Type}(kt:Ty)(k:kt.den):List (kt.den×α)→Bool
 |[]=>false
 |e::es=>aY kt k e.1||de kt k es
def bE(kt vt:Ty)(k:kt.den):List (kt.den×vt.den)→vt.den
 |[]=>vt.aC
 |e::es=>if aY kt k e.1 then e.2 else bE kt vt k es
def bF{α:Type}(kt:Ty)(k:kt.den)(v:α):List (kt.den×α)→List (kt.den×α)
 |[]=>[(k,v)]
 |e::es=>if aY kt k e.1 then(k,v)::es else e::bF kt k v es
def Ty.keyed:Ty→Bool
 | .int _| .bool| .str| .unit=>true
 | .arr _ t=>t.keyed
 | .pair a b=>a.keyed&&b.keyed
 |_=>false
theorem HP{α:Type}{f:α→α→Bool}(h:∀x y,f x y=true↔x=y):∀(xs ys:List α),Am f xs ys=true↔xs=ys
 |[],[]=>by simp[Am]
 |[],_::_=>by simp[Am]
 |_::_,[]=>by simp[Am]
 |x::xs,y::ys=>by simp[Am,h,HP h xs ys]
theorem cu:∀{t:Ty},t.keyed=true→∀(x y:t.den),aY t x y=true↔x=y
 | .int _,_,x,y=>by simp[aY]
 | .bool,_,x,y=>by simp[aY]
 | .str,_,x,y=>by simp[aY]
 | .arr _ t,h,x,y=>HP (fun a b=>cu (t:=t) h a b) x y
 |
  .pair a b,h,x,y=>by
  simp only[Ty.keyed,aW] at h
  simp only[aY,aW,cu h.1,cu h.2]
  grind
 | .unit,_,x,y=>by simp[aY]
 | .slice _ _,h,_,_=>by trivial
 | .aP _,h,_,_=>by trivial
 | .fns _,h,_,_=>by trivial
theorem aV.fn{α:Type}{r:List Value→α→Prop}{n:Nat}(hn:∀vs x,r vs x→vs.length=n)(h:∀vs us x,r vs x→r us x→vs=us):∀{xs:List α}{vs us:List Value},aV r vs xs→aV r us xs→vs=us
 |[],vs,us,h1,h2=>by simp[aV] at h1 h2;grind
 |x::xs,_,_,⟨a1,a2,e1,r1,r2⟩,⟨b1,b2,e2,s1,s2⟩=>by rw[e1,e2,h _ _ x r1 s1,aV.fn hn h r2 s2]
theorem Rel.fn{w:World}{S:Nat→Prop}:∀{t:Ty},t.keyed=true→∀(vs us:List Value)(x:t.den),Rel w S t vs x→Rel w S t us x→vs=us
 | .int _,_,vs,us,x,h1,h2=>by rw[h1.1,h2.1]
 | .bool,_,vs,us,x,h1,h2=>by simp only[Rel] at h1 h2;grind
 | .str,_,vs,us,x,h1,h2=>by rw[h1.1,h2.1]
 | .arr _ t,h,vs,us,x,h1,h2=>aV.fn (fun _ _=>Rel.len) (fun a b y=>Rel.fn (t:=t) h a b y) h1.2 h2.2
 |
  .pair a b,h,vs,us,x,⟨a1,a2,e1,r1,r2⟩,⟨b1,b2,e2,s1,s2⟩=>by
  simp only[Ty.keyed,aW] at h
  rw[e1,e2,Rel.fn h.1 _ _ _ r1 s1,Rel.fn h.2 _ _ _ r2 s2]
 | .unit,_,vs,us,x,h1,h2=>by simp only[Rel] at h1 h2;grind
 | .slice _ _,h,_,_,_,_,_=>by trivial
 | .aP _,h,_,_,_,_,_=>by trivial
 | .fns _,h,_,_,_,_,_=>by trivial
def Value.bare:Value→Bool
 | .int _ _| .bool _| .string _=>true
 |_=>false
theorem Rel.bare{w:World}{S:Nat→Prop}:∀{t:Ty},t.keyed=true→∀(vs:List Value)(x:t.den),Rel w S t vs x→∀v∈vs,Value.bare v=true
 | .int _,_,vs,x,h,v,hv=>by rw[h.1] at hv;simp at hv;subst hv;rfl
 | .bool,_,vs,x,h,v,hv=>by simp only[Rel] at h;rw[h] at hv;simp at hv;subst hv;rfl
 | .str,_,vs,x,h,v,hv=>by rw[h.1] at hv;simp at hv;subst hv;rfl
 |
  .arr _ t,h,vs,x,h1,v,hv=>by
  have key:∀(xs:List t.den)(vs:List Value),aV (Rel w S t) vs xs→∀v∈vs,Value.bare v=true:=by
   intro xs
   induction xs with
   |nil=>intro vs h v hv;simp[aV] at h;subst h;cases hv
   |
    cons y ys ih=>
    rintro vs ⟨a1,a2,e1,r1,r2⟩ v hv
    rw[e1] at hv
    rcases List.mem_append.1 hv with hv|hv
    ·exact Rel.bare (t:=t) h _ _ r1 v hv
    ·exact ih _ r2 v hv
  exact key x vs h1.2 v hv
 |
  .pair a b,h,vs,x,⟨a1,a2,e1,r1,r2⟩,v,hv=>by
  simp only[Ty.keyed,aW] at h
  rw[e1] at hv
  rcases List.mem_append.1 hv with hv|hv
  ·exact Rel.bare h.1 _ _ r1 v hv
  ·exact Rel.bare h.2 _ _ r2 v hv
 | .unit,_,vs,x,h,v,hv=>by grind [Rel]
 | .slice _ _,h,_,_,_,_,_=>by trivial
 | .aP _,h,_,_,_,_,_=>by trivial
 | .fns _,h,_,_,_,_,_=>by trivial
theorem oc{n:Nat}{v:Value}(h:Value.bare v=true):Instr.sameBits n v v=true:=by
 cases v with
 |int k m=>cases n<;>simp[Instr.sameBits]
 |bool b=>cases n<;>simp[Instr.sameBits]
 |
  string s=>
  have:(s==s)=true:=by
   have:(s.data==s.data)=true:=by simp
   trivial
  grind [Instr.sameBits]
 |_=>trivial
theorem cK.fn{E:Env}{w:World}{t:Ty}(hk:t.keyed=true){x:t.den}{v u:Value}(hv:cK E w (.val t x) v)(hu:cK E w (.val t x) u):v=u∧Instr.sameBits 10000 v v=true:=by
 rcases hv with⟨h1,cs,e,h2⟩|⟨h1,h2⟩
 ·rcases hu with⟨k1,ds,e',k2⟩|⟨k1,_⟩
  ·have:=Rel.fn hk _ _ _ h2 k2
   have e2:cs=ds:=l6 this
   subst e;subst e';subst e2
   refine⟨rfl,?_⟩
   show Instr.sameBits (9999+1) _ _=true
   simp only[Instr.sameBits,beq_self_eq_true,Bool.true_and,l4]
   intro p hp
   have hb:=Rel.bare hk _ _ h2
   have:p.1=p.2∧p.1∈cs.toList:=by
    have key:∀(l:List Value)(p:Value×Value),p∈l.zip l→p.1=p.2∧p.1∈l:=by
     intro l
     induction l with
     |nil=>intro p hp;cases hp
     |
      cons x l ih=>
      intro p hp
      rcases List.mem_cons.1 hp with hp|hp
      ·subst hp;simp
      ·exact⟨(ih p hp).1,eH _ (ih p hp).2⟩
    exact key _ p hp
   obtain⟨p1,p2⟩:=p
   simp only at this ⊢
   rw[←this.1]
   exact oc (hb p1 this.2)
  ·rw[h1] at k1;cases k1
 ·rcases hu with⟨k1,_⟩|⟨k1,k2⟩
  ·rw[h1] at k1;cases k1
  ·have:=Rel.fn hk _ _ _ h2 k2
   simp at this
   exact⟨this,oc (Rel.bare hk _ _ h2 v (by simp))⟩
section
variable{P:Program} {G:bR} (T:bD P G) {E:Env} {w:World}
include T
theorem iX(em:Bool)(d:Nat):∀(n:Nat)(t:TypeId)(td:TD),G.at t=some td→jg P G n t td.ty=true→∀(x:td.ty.den)(v:Value),cK E w (.val td.ty x) v→(Instr.checkKey em (d+n) t v).run P w= .ok () w
 |0,t,td,ht,h=>by trivial
 |
  n+1,t,td,ht,h=>by
  have ih:=fun t td ht h=>iX em d n t td ht h
  unfold jg at h
  rw[ht] at h
  simp only[aW] at h
  obtain⟨_,h⟩:=h
  intro x v hx
  rw[show d+(n+1)=(d+n)+1 from rfl,Instr.checkKey]
  obtain⟨ii,dd,_,hu,_,hdo,_⟩:=T.info ht
  obtain⟨ty,te,te2⟩:=td
  simp only at h x hx hdo
  cases ty with
  |
   int k=>
   have hu:=T.intOf ht rfl
   simp[underlying,hu]
  |
   bool=>
   cases dd<;>simp[cG,Ty.same] at hdo
   ·simp[underlying,hu]
   grind [cz]
  |
   str=>
   have hu:=T.strOf ht rfl
   simp[underlying,hu]
  |
   arr m u=>
   obtain⟨tde,h1,h2,h3⟩:=T.qm ht rfl
   simp only at h h1 h2 h3
   subst h3
   obtain⟨ie,_,hi,_,hsz,_⟩:=T.info h2
   rcases hx with⟨_,cx,rfl,hx1,hx2⟩|⟨hx,_⟩
   ·simp only[Sem.run_bind,run_underlying h1,Result.andThen_ok,Std.Legacy.Range.forIn_eq_forIn_range',Std.Legacy.Range.size,Nat.sub_zero,Nat.add_one_sub_one,Nat.div_one]
    have lx:=aV.len (n:=tde.ty.size) (fun _ _ h=>Rel.len h) hx2
    rw[nW,hx1] at lx
    have each:∀j,j<m→∃a,(part te cx (j*tde.ty.size)).run P w= .ok a w∧(Instr.checkKey em (d+n) te a).run P w= .ok () w:=by
     intro j hj
     have hr:=aV.get (fun _ _=>Rel.len) tde.ty.aC j hx2 (by omega)
     have hb:(j+1)*tde.ty.size≤m*tde.ty.size:=gB _ hj
     rw[fQ,Nat.one_mul] at hb
     grind [nr]
    have key:∀(is:List Nat),(∀j∈is,j<m)→(forIn is PUnit.unit fun i _=>do
     Instr.checkKey em (d+n) te (←part te cx (i*(←sizeOf te)))
     pure (ForInStep.yield PUnit.unit):Sem PUnit).run P w= .ok () w:=by
     intro is
     induction is with
     |nil=>simp_all
     |
      cons j is ihl=>
      intro hj
      obtain⟨a,p1,p2⟩:=each j (hj j (by simp))
      simp only[List.forIn_cons,Sem.run_bind,T.size h2,Result.andThen_ok,p1,p2,Sem.run_pure]
      grind
    simp_all
   trivial
  |
   pair a b=>
   obtain⟨fs,h1,h2⟩:=T.structOf ht rfl
   simp only[aW,h1] at h
   obtain⟨e1,e2⟩:=h
   rcases hx with⟨_,cx,rfl,hx⟩|⟨hx,_⟩
   ·simp only[Sem.run_bind,run_underlying h1,Result.andThen_ok]
    rw[←Array.forIn_toList]
    have lx:=Rel.len hx
    rw[nW] at lx
    have key:∀(fs:List Field)(ty:Ty)(off:Nat)(x:ty.den),cz G fs off ty=true→GF (jg P G n) fs ty=true→off+ty.size≤cx.size→Rel w E.S ty ((cx.toList.drop off).take ty.size) x→
     (forIn fs PUnit.unit fun f _=>if f.name≠ "_" then(do
      let v ←part f.type cx f.offset
      Instr.checkKey em (d+n) f.type v
      pure (ForInStep.yield PUnit.unit)) else pure (ForInStep.yield PUnit.unit):Sem PUnit).run P w= .ok () w:=by
     intro fs
     induction fs with
     |nil=>simp_all
     |
      cons f fs ihl=>
      intro ty off x hf he hlx hx
      cases ty with
      |
       pair a b=>
       simp only[cz,aW] at hf
       obtain⟨⟨⟨g1,g2⟩,g3⟩,g4⟩:=hf
       simp only[GF,aW,iE,beq_eq_false_iff_ne] at he
       obtain⟨⟨q1,q2⟩,q3⟩:=he
       split at g1
       ·rename_i td htd
        have:=Ty.aB g1;subst this
        have g2:=bP g2
        simp only[Ty.size] at hlx hx
        obtain⟨v1,v2,ex,hx1,hx2⟩:=hx
        have lx1:=Rel.len hx1
        have c1:(cx.toList.drop off).take td.ty.size=v1:=by
         have:((cx.toList.drop off).take (td.ty.size+b.size)).take td.ty.size=v1:=by grind
         grind
        have c2:(cx.toList.drop (off+td.ty.size)).take b.size=v2:=by
         have:((cx.toList.drop off).take (td.ty.size+b.size)).drop td.ty.size=v2:=by grind
         rwa [l7,kj,qi] at this
        rw[←c1] at hx1;rw[←c2] at hx2
        obtain⟨a,p1,p2⟩:=nr T htd hx1 (by omega)
        have p3:=ih f.type td htd q2 x.1 a p2
        have hrest:=ihl b (off+td.ty.size) x.2 g4 q3 (by omega) hx2
        simp_all
       grind
      |_=>trivial
    rw[key fs.toList (.pair a b) 0 x h2 e2 (by omega) (by rw[iC,gR (by simp[lx])];exact hx)];rfl
   trivial
  |_=>simp at h
end
end Go.Ax
namespace Go.Ax
section
variable{P:Program} {G:bR} (T:bD P G) {E:Env} {w:World}
def HQ(E:Env)(w:World)(vt:Ty):Option (Nat×vt.den)→Option (Nat×Value)→Prop
 |none,none=>True
 |some x,some y=>x.1=y.1∧cK E w (.val vt x.2) y.2
 |_,_=>False
include T in
theorem oe{t:TypeId}{td:TD}(ht:G.at t=some td)(he:jg P G 40 t td.ty=true){vt:Ty}{k:td.ty.den}{v:Value}(hv:cK E w (.val td.ty k) v):∀{l:List MapEntry}{es:List (td.ty.den×vt.den)}(i:Nat),RM E w td.ty vt l es→
 ∃r,(Instr.findAsking t v l i).run P w= .ok r w∧HQ E w vt (dO td.ty k es i) r
 |[],[],i,_=>⟨none,by trivial,trivial⟩
 |[],_::_,_,h=>h.elim
 |_::_,[],_,h=>h.elim
 |
  e::l,x::es,i,⟨h1,h2,h3⟩=>by
  have hq:(Op.equal t v e.key).run P w= .ok (aY td.ty k x.1) w:=sU T (E:=E) (w:=w) (Op.maxDepth -40) 40 t td ht he k x.1 v e.key hv h1
  cases hb:aY td.ty k x.1 with
  |true=>exact⟨some (i,e.val),by simp[Instr.findAsking,hq,hb],by simp only[dO,hb,bZ];trivial⟩
  |
   false=>
   simp_all[oe,Instr.findAsking,dO]
theorem lf{d:TypeDesc}{kt:Ty}{x y:kt.den}{v u:Value}{b:Bool}(hv:cK E w (.val kt x) v)(hu:cK E w (.val kt y) u)(h:Instr.sameNow d v u=some b):b=aY kt x y:=by
 cases kt with
 |
  int k=>
  obtain⟨rfl,_⟩:=RV.dk (RV.ef hv)
  obtain⟨rfl,_⟩:=RV.dk (RV.ef hu)
  cases d<;>simp[Instr.sameNow] at h
  subst h;trivial
 |
  bool=>
  have:=RV.eC (RV.ef hv);subst this
  have:=RV.eC (RV.ef hu);subst this
  cases d<;>simp[Instr.sameNow] at h
  subst h;trivial
 |
  str=>
  obtain⟨rfl,_⟩:=RV.gH (RV.ef hv)
  obtain⟨rfl,_⟩:=RV.gH (RV.ef hu)
  cases d<;>simp[Instr.sameNow] at h
  subst h
  have:∀(a b:List UInt8),((⟨a.toArray⟩:ByteArray)==⟨b.toArray⟩)=decide (a=b):=fun a b=>by
   have e1:((⟨a.toArray⟩:ByteArray)==⟨b.toArray⟩)=(a.toArray==b.toArray):=rfl
   grind
  simp only[aY]
  grind
 |
  _=>
  rcases hv with⟨h1,cs,e,_⟩|⟨h1,h2⟩
  ·subst e;cases d<;>simp[Instr.sameNow] at h
  ·first
    |(simp[AV.isAgg,Ty.isAgg] at h1;done)
    |(simp only[RC,Rel] at h2;obtain⟨a,c,e,_⟩:=h2;simp at e;subst e;cases d<;>simp[Instr.sameNow] at h;done)
    |(simp only[RC,Rel] at h2;obtain⟨a,e,_⟩:=h2;simp at e;subst e;cases d<;>simp[Instr.sameNow] at h;done)
    |exact h2.elim
theorem tZ{d:TypeDesc}{kt vt:Ty}{k:kt.den}{v:Value}(hv:cK E w (.val kt k) v):∀{l:List MapEntry}{es:List (kt.den×vt.den)}(i:Nat){r:Option (Nat×Value)},RM E w kt vt l es→Instr.findNow d v l i=some r→HQ E w vt (dO kt k es i) r
 |[],[],i,r,_,h=>by simp[Instr.findNow] at h;subst h;trivial
 |[],_::_,_,_,h,_=>h.elim
 |_::_,[],_,_,h,_=>h.elim
 |
  e::l,x::es,i,r,⟨h1,h2,h3⟩,h=>by
  simp only[Instr.findNow] at h
  split at h
  ·rename_i hs
   have:=lf hv h1 hs
   cases h
   simp only[dO,←this,bZ];exact⟨rfl,h2⟩
  ·rename_i hs
   have:=lf hv h1 hs
   simp only[dO,←this,dL,cW]
   exact tZ hv (i+1) h3 h
  ·cases h
include T in
theorem ua{t:TypeId}{td:TD}(ht:G.at t=some td)(he:jg P G 40 t td.ty=true){vt:Ty}{k:td.ty.den}{v:Value}(hv:cK E w (.val td.ty k) v){l:List MapEntry}{es:List (td.ty.den×vt.den)}(h:RM E w td.ty vt l es):
 ∃r,(Instr.findKey t v l).run P w= .ok r w∧HQ E w vt (dO td.ty k es 0) r:=by
 obtain⟨ii,dd,_,hu,_⟩:=T.info ht
 unfold Instr.findKey
 simp only[Sem.run_bind,run_underlying hu,Result.andThen_ok]
 split
 ·rename_i r hr
  exact⟨r,rfl,tZ hv 0 h hr⟩
 ·exact oe T ht he hv 0 h
end
theorem wR{vt kt:Ty}{k:kt.den}:∀{es:List (kt.den×vt.den)}{i:Nat},(dO kt k es i).map (·.2)=if de kt k es then some (bE kt vt k es) else none
 |[],_=>rfl
 |
  e::es,i=>by
  simp only[dO,de,bE]
  by_cases hb:aY kt k e.1=true
  ·simp[hb]
  simp_all[wR]
theorem Av{α:Type}{kt:Ty}{k:kt.den}:∀{es:List (kt.den×α)}{i j:Nat}{y:α},dO kt k es i=some (j,y)→i≤j
 |[],_,_,_,h=>by cases h
 |
  e::es,i,j,y,h=>by
  simp only[dO] at h
  split at h
  ·grind
  ·exact Nat.le_of_succ_le (Av h)
theorem RM.SZ{E:Env}{w:World}{kt vt:Ty}{k:kt.den}{y:vt.den}{v u:Value}(hk:kt.keyed=true)(hv:cK E w (.val kt k) v)(hu:cK E w (.val vt y) u):∀{l:List MapEntry}{es:List (kt.den×vt.den)}{i j:Nat}{z:vt.den},
 RM E w kt vt l es→dO kt k es i=some (i+j,z)→RM E w kt vt (l.modify j fun e=>{e with key:=v,val:=u}) (bF kt k y es)∧(∃e,l[j]? =some e∧cK E w (.val kt k) e.key)
 |[],[],_,_,_,_,h=>by cases h
 |[],_::_,_,_,_,h,_=>h.elim
 |_::_,[],_,_,_,h,_=>h.elim
 |
  e::l,x::es,i,j,z,⟨h1,h2,h3⟩,h=>by
  simp only[dO] at h
  split at h
  ·rename_i hb
   have hj:j=0:=by grind
   subst hj
   have hx:=(cu hk _ _).1 hb
   refine⟨?_,e,rfl,by grind⟩
   simp only[bF,hb,bZ]
   trivial
  ·rename_i hb
   have:=Av h
   obtain⟨j,rfl⟩:∃m,j=m+1:=⟨j -1,by omega⟩
   rw[show i+(j+1)=(i+1)+j from by omega] at h
   obtain⟨r1,r2⟩:=RM.SZ hk hv hu h3 h
   simp only[bF,hb]
   trivial
theorem RM.push{E:Env}{w:World}{kt vt:Ty}{k:kt.den}{y:vt.den}{v u:Value}{n:Nat}(hv:cK E w (.val kt k) v)(hu:cK E w (.val vt y) u):∀{l:List MapEntry}{es:List (kt.den×vt.den)}{i:Nat},
 RM E w kt vt l es→dO kt k es i=none→RM E w kt vt (l++[{key:=v,val:=u,born:=n}]) (bF kt k y es)
 |[],[],_,_,_=>⟨hv,hu,trivial⟩
 |[],_::_,_,h,_=>h.elim
 |_::_,[],_,h,_=>h.elim
 |
  e::l,x::es,i,⟨h1,h2,h3⟩,h=>by
  simp only[dO] at h
  split at h
  ·cases h
  ·rename_i hb
   simp only[bF,hb]
   exact⟨h1,h2,RM.push hv hu h3 h⟩
theorem Aw{α:Type}{kt:Ty}{k x:kt.den}{y:α}:∀{es:List (kt.den×α)},x∈(bF kt k y es).map (·.1)→x=k∨x∈es.map (·.1)
 |[],h=>by simp[bF] at h;grind
 |
  e::es,h=>by
  simp only[bF] at h
  split at h
  ·simp only[dX,fa] at h ⊢
   rcases h with h|h
   ·exact Or.inl h
   ·exact Or.inr (Or.inr h)
  ·simp only[dX,fa] at h ⊢
   rcases h with h|h
   ·exact Or.inr (Or.inl h)
   ·exact(Aw h).imp id Or.inr
theorem dP{α:Type}{kt:Ty}(hk:kt.keyed=true){k:kt.den}{y:α}:∀{es:List (kt.den×α)},(es.map (·.1)).Nodup→((bF kt k y es).map (·.1)).Nodup
 |[],_=>by simp[bF]
 |
  e::es,h=>by
  simp only[dX,ou] at h
  simp only[bF]
  split
  ·rename_i hb
   have:=(cu hk _ _).1 hb
   simp only[dX,ou]
   exact⟨by rw[this];exact h.1,h.2⟩
  ·rename_i hb
   simp only[dX,ou]
   refine⟨fun hm=>?_,dP hk h.2⟩
   rcases Aw hm with e1|e1
   ·exact hb ((cu hk _ _).2 e1.symm)
   ·exact h.1 e1
theorem eM{α:Type}{kt:Ty}{k:kt.den}{y:α}:∀{es:List (kt.den×α)},(bF kt k y es).length≤es.length+1
 |[]=>by simp[bF]
 |
  e::es=>by
  simp only[bF]
  split
  ·simp
  ·have:=eM (k:=k) (y:=y) (es:=es);simp;omega
def lg(G:bR)(t:TypeId):Option (TypeId×TypeId×Ty×Ty):=
 match G.at t with
 |
  some td=>match G.at td.e,G.at td.e2 with
  |some k,some v=>if td.ty.isMap&&k.ty.keyed&&v.ty.pure then some (td.e,td.e2,k.ty,v.ty) else none
  |_,_=>none
 |none=>none
theorem iH{P:Program}{G:bR}(T:bD P G){t ke ve:TypeId}{kt vt:Ty}(h:lg G t=some (ke,ve,kt,vt)):P.underlying t=some (.map ke ve)∧kt.keyed=true∧vt.pure=true∧(∃k,G.at ke=some k∧k.ty=kt)∧(∃v,G.at ve=some v∧v.ty=vt):=by
 unfold lg at h
 split at h
 ·rename_i td ht
  split at h
  ·rename_i k v hk hv
   split at h
   ·rename_i hc
    cases h
    simp only[aW] at hc
    exact⟨T.mapOf ht hc.1.1,hc.1.2,hc.2,⟨k,hk,rfl⟩,⟨v,hv,rfl⟩⟩
   grind
  grind
 grind
def qJ(G:bR)(d:Nat)(t:TypeId):Option fH:=
 match lg G t with
 |some (_,_,kt,vt)=>some ⟨.mp d,[(d,some (.map kt vt []))],[d],[]⟩
 |none=>none
theorem yc{P:Program}{G:bR}(T:bD P G){gl:Ctx}{σ:St}{E:Env}{a:Act}{w:World}(h:bX gl σ E a w){d:Nat}{t:TypeId}{r:fH}{rs:Option Value}(hrs:∀v,rs=some v→∃k n,v= .int k n)(he:qJ G d t=some r)(hfr:∀b∈r.fr,σ.fresh b):
 ∃v w' E',(Instr.makeMap t rs).run P w= .ok v w'∧bX gl {σ with hp:=aR σ.hp r.hw} E' a w'∧RV E' w' r.v v∧Ext gl.md (Own σ.hp E) E w (Own (aR σ.hp r.hw) E') E' w':=by
 unfold qJ at he
 split at he
 ·rename_i ke ve kt vt hm
  cases he
  obtain⟨h1,_⟩:=iH T hm
  have hf:=hfr d (by simp)
  obtain⟨g1,x1⟩:=h.fresh (w':=w.alloc (.map #[] 0)) hf (g:=some w.heap.size) (sv:=undef) (t:=.unit) (k:=.map kt vt []) rfl (Tp.r rfl rfl) rfl (by simp) (fun i hi=>heap_alloc_old w _ i hi) (fun i hi=>by grind)
   ⟨by simp,by grind,w.heap.size, #[],0,by simp[Env.at],heap_alloc_new w _,trivial,by simp,by simp⟩
  refine⟨.map (some w.heap.size),_,_,?_,g1,RV.ef (Or.inr ⟨rfl,w.heap.size,by simp[Env.at],rfl⟩),x1⟩
  cases rs with
  |none=>trivial
  |
   some v=>
   obtain⟨k,n,e⟩:=hrs v rfl
   simp_all[Instr.makeMap,run_underlying,asInt,asIntOf]
 grind
def wS(hb:Nat→Option aN)(kt vt:Ty):AV→Option (List (kt.den×vt.den))
 | .ep=>some []
 |
  .mp b=>match hb b with
  |some (.map k v es)=>if h:Ty.same k kt=true∧Ty.same v vt=true then some (Ty.aB h.1▸Ty.aB h.2▸es) else none
  |_=>none
 | .val (.map k v) y=>if h:Ty.same k kt=true∧Ty.same v vt=true then some (Ty.aB h.1▸Ty.aB h.2▸bK y) else none
 |_=>none
def yd(ok:Bool)(kt vt:Ty)(k:kt.den)(es:List (kt.den×vt.den)):AV:=
 match ok with
 |true=>.gJ (.cons (.val vt (bE kt vt k es)) (.cons (.val .bool (de kt k es)) .nil))
 |false=>.val vt (bE kt vt k es)
def mq(P:Program)(G:bR)(hb:Nat→Option aN)(t:TypeId)(x i:AV)(ok:Bool):Option (AV×List VC):=
 match lg G t with
 |
  some (ke,_,kt,vt)=>match wS hb kt vt x,i.bM kt with
  |some es,some k=>if i.plain then some (yd ok kt vt k es,[vc (jg P G 40 ke kt=true)]) else none
  |_,_=>none
 |none=>none
theorem HR{gl:Ctx}{E:Env}{w:World}{hp:List (Option aN)}(hw:HW gl E w hp){hb:Nat→Option aN}(hB:HB hb hp){kt vt:Ty}{x:AV}{v:Value}{es:List (kt.den×vt.den)}(hx:RV E w x v)(h:wS hb kt vt x=some es):
 (v= .map none∧es= [])∨∃g en clock,v= .map (some g)∧w.heap[g]? =some (.map en clock)∧RM E w kt vt en.toList es:=by
 unfold wS at h
 split at h
 ·cases h
  have:=RV.atom rfl hx
  simp_all[RC]
 ·split at h
  ·rename_i k v' es' hk
   split at h
   ·rename_i hc
    obtain⟨c1,c2⟩:=hc
    have e1:=Ty.aB c1;subst e1
    have e2:=Ty.aB c2;subst e2
    cases h
    obtain⟨g,hg,e⟩:=RV.atom rfl hx
    simp at e
    obtain⟨_,_,g',en,clock,r1,r2,r3,_⟩:=hw.cM _ _ (hB _ _ hk)
    grind
   grind
  grind
 ·rename_i k v' y
  split at h
  ·rename_i hc
   obtain⟨c1,c2⟩:=hc
   have e1:=Ty.aB c1;subst e1
   have e2:=Ty.aB c2;subst e2
   cases h
   obtain⟨a,e,hr⟩:=RV.atom rfl hx
   simp at e;subst e
   rcases hr with⟨rfl,rfl⟩|⟨es,g,en,clock,rfl,rfl,_,r2,r3,_⟩
   ·exact Or.inl ⟨rfl,rfl⟩
   ·exact Or.inr ⟨g,en,clock,rfl,r2,RM.of r3⟩
  grind
 grind
theorem Ay{P:Program}{G:bR}(T:bD P G){gl:Ctx}{E:Env}{w:World}{hp:List (Option aN)}(hw:HW gl E w hp){hb:Nat→Option aN}(hB:HB hb hp){t:TypeId}{x i:AV}{ok:Bool}{vx vi:Value}(hx:RV E w x vx)(hi:RV E w i vi){r:AV}{vc:List VC}(h:mq P G hb t x i ok=some (r,vc))(hvc:dC vc):
 ∃v,(Instr.lookup t vx vi ok).run P w= .ok v w∧RV E w r v:=by
 unfold mq at h
 split at h
 ·rename_i ke ve kt vt hm
  split at h
  ·rename_i es k hes hk
   split at h
   ·rename_i hpl
    cases h
    obtain⟨h1,h2,h3,⟨kd,h4,h5⟩,⟨vd,h6,h7⟩⟩:=iH T hm
    subst h5;subst h7
    obtain⟨he,_⟩:=hvc
    have hkv:cK E w (.val kd.ty k) vi:=cK.bM hk (RV.jD hpl hi)
    have hck:=iX T (E:=E) (w:=w)
    have hz:∃z,(zeroValue ve).run P w= .ok z w∧cK E w (.val vd.ty vd.ty.aC) z:=by
     obtain⟨z,z1,z2,z3⟩:=T.zero h6 w
     have hr:=(fT (E:=E) (w:=w) z2).2 h3
     refine⟨z,z1,?_⟩
     cases z with
     |agg cs=>exact Or.inl ⟨by simp only[JL] at z3;exact z3.symm,cs,rfl,hr⟩
     |_=>exact Or.inr ⟨by simp only[JL] at z3;exact z3.symm,by trivial⟩
    obtain⟨z,z1,z2⟩:=hz
    have fin:∀(en:Array MapEntry),RM E w kd.ty vd.ty en.toList es→∃r,(Instr.checkKey en.isEmpty 10000 ke vi).run P w= .ok () w∧(Instr.findKey ke vi en.toList).run P w= .ok r w∧
     ((r=none∧RV E w (yd ok kd.ty vd.ty k es) (if ok then Value.tuple #[z,.bool false] else z))∨(∃q,r=some q∧RV E w (yd ok kd.ty vd.ty k es) (if ok then Value.tuple #[q.2,.bool true] else q.2))):=by
     intro en hen
     obtain⟨r,r1,r2⟩:=ua T h4 he hkv hen
     have hc:=hck en.isEmpty 9960 40 ke kd h4 he k vi hkv
     have hmg:=wR (vt:=vd.ty) (k:=k) (es:=es) (i:=0)
     have nh:de kd.ty k es=false→bE kd.ty vd.ty k es=vd.ty.aC:=by
      generalize es=es
      induction es with
      |nil=>intro _;rfl
      |
       cons e es ih=>
       simp_all[de,bE]
     have done:∀(v:Value)(b:Bool),cK E w (.val vd.ty (bE kd.ty vd.ty k es)) v→b=de kd.ty k es→RV E w (yd ok kd.ty vd.ty k es) (if ok then Value.tuple #[v,.bool b] else v):=by
      intro v b k1 k2
      subst k2
      cases ok with
      |true=>exact⟨_,rfl,k1,Or.inr ⟨rfl,rfl⟩,rfl⟩
      |false=>trivial
     revert r2 hmg
     generalize dO kd.ty k es 0=m
     intro r2 hmg
     cases m with
     |
      none=>
      cases r with
      |some _=>trivial
      |
       none=>
       grind
     |
      some p=>
      cases r with
      |none=>trivial
      |
       some q=>
       have hnh:de kd.ty k es=true:=by
        grind
       rw[hnh] at hmg
       simp at hmg
       exact⟨some q,hc,r1,Or.inr ⟨q,rfl,done q.2 true (by rw[←hmg];exact r2.2) hnh.symm⟩⟩
    rcases HR hw hB hx hes with⟨e1,e2⟩|⟨g,en,clock,e1,e2,e3⟩
    ·subst e1;subst e2
     obtain⟨r,k1,k2,k3⟩:=fin #[] trivial
     rcases k3 with⟨e,k3⟩|⟨q,e,k3⟩
     ·simp_all[Instr.lookup,run_underlying]
     simp_all[Instr.lookup,run_underlying]
    ·subst e1
     obtain⟨r,k1,k2,k3⟩:=fin en e3
     have ahQ:(getObj g).run P w= .ok (.map en clock) w:=by simp[getObj,Sem.run,e2]
     rcases k3 with⟨e,k3⟩|⟨q,e,k3⟩
     ·simp_all[Instr.lookup,run_underlying]
     simp_all[Instr.lookup,run_underlying]
   grind
  grind
 grind
def jZ(P:Program)(G:bR)(hb:Nat→Option aN)(t:TypeId)(x k v:AV):Option fH:=
 match lg G t,x with
 |
  some (ke,_,kt,vt),.mp b=>match wS hb kt vt (.mp b),k.bM kt,v.bM vt with
  |some es,some k',some v'=>if k.plain&&v.plain then some ⟨.bot,[(b,some (.map kt vt (bF kt k' v' es)))],[],[vc (jg P G 40 ke kt=true),vc (es.length+1≤aG)]⟩ else none
  |_,_,_=>none
 |_,_=>none
theorem mr{P:Program}{G:bR}(T:bD P G){gl:Ctx}{σ:St}{E:Env}{a:Act}{w:World}(h:bX gl σ E a w){hb:Nat→Option aN}(hB:HB hb σ.hp){t:TypeId}{x k v:AV}{vx vk vv:Value}(hx:RV E w x vx)(hk:RV E w k vk)(hv:RV E w v vv){r:fH}(he:jZ P G hb t x k v=some r)(hvc:dC r.vc):
 ∃w',(Instr.mapUpdate t vx vk vv).run P w= .ok () w'∧bX gl {σ with hp:=aR σ.hp r.hw} E a w'∧RV E w' r.v undef∧Ext gl.md (Own σ.hp E) E w (Own (aR σ.hp r.hw) E) E w':=by
 unfold jZ at he
 split at he
 ·rename_i ke ve kt vt b hm
  split at he
  ·rename_i es k' v' hes hk' hv'
   split at he
   ·rename_i hpl
    cases he
    simp only[aW] at hpl
    obtain⟨he,hlen,_⟩:=hvc
    obtain⟨h1,h2,h3,⟨kd,h4,h5⟩,⟨vd,h6,h7⟩⟩:=iH T hm
    subst h5;subst h7
    have hkv:cK E w (.val kd.ty k') vk:=cK.bM hk' (RV.jD hpl.1 hk)
    have hvv:cK E w (.val vd.ty v') vv:=cK.bM hv' (RV.jD hpl.2 hv)
    have hbk:∃es0,hb b=some (.map kd.ty vd.ty es0)∧es0=es:=by
     simp only[wS] at hes
     grind
    obtain⟨es0,hb0,e0⟩:=hbk
    subst e0
    have hbk:=hB b _ hb0
    obtain⟨q1,q2,g,en,clock,q3,q4,q5,q6,q7⟩:=h.hw.cM b _ hbk
    obtain⟨g',hg',e⟩:=RV.atom rfl hx
    simp at e;subst e
    rw[q3] at hg';cases hg'
    obtain⟨r,r1,r2⟩:=ua T h4 he hkv q5
    have hc:=iX T (E:=E) (w:=w) false 9960 40 ke kd h4 he k' vk hkv
    have ahQ:(getObj g).run P w= .ok (.map en clock) w:=by simp[getObj,Sem.run,q4]
    have hlt:g<w.heap.size:=(Array.getElem?_eq_some_iff.1 q4).1
    have key:∃en' ahN,(Instr.mapUpdate t (.map (some g)) vk vv).run P w= .ok () (w.putObj g (.map en' ahN))∧RM E w kd.ty vd.ty en'.toList (bF kd.ty k' v' es0)∧(∀x∈en'.toList,x.born<ahN)∧(en'.toList.map (·.born)).Nodup:=by
     have aR:∀o,(setObj g o).run P w= .ok () (w.putObj g o):=fun o=>by simp[setObj,Sem.run,q4,World.putObj]
     cases hf:dO kd.ty k' es0 0 with
     |
      none=>
      rw[hf] at r2
      cases r with
      |some _=>trivial
      |
       none=>
       refine⟨en.push {key:=vk,val:=vv,born:=clock},clock+1,?_,?_,?_,?_⟩
       ·simp_all[Instr.mapUpdate,run_underlying]
       ·grind [RM.push]
       ·grind
       grind
     |
      some p=>
      obtain⟨i,y⟩:=p
      rw[hf] at r2
      cases r with
      |none=>trivial
      |
       some q=>
       obtain⟨i',u⟩:=q
       obtain⟨e1,e2⟩:=r2
       simp only at e1 e2
       subst e1
       obtain⟨t1,e0,t2,t3⟩:=RM.SZ (i:=0) (j:=i) h2 hkv hvv q5 (by rw[dY];exact hf)
       obtain⟨f1,f2⟩:=cK.fn h2 t3 hkv
       have hold:((en[i]?).map (·.key)).getD vk=e0.key:=by
        grind
       have hstay:(Instr.keyThatStays (((en[i]?).map (·.key)).getD vk) vk).run P w= .ok vk w:=by
        simp_all[Instr.keyThatStays]
       refine⟨en.modify i fun e=>{e with key:=vk,val:=vv},clock,?_,?_,?_,?_⟩
       ·simp_all[Instr.mapUpdate,run_underlying]
       ·grind
       ·grind [List.mem_iff_getElem?]
       ·have:(en.modify i fun e=>{e with key:=vk,val:=vv}).toList.map (·.born)=en.toList.map (·.born):=by
         rw[Array.toList_modify]
         apply List.ext_getElem?
         grind
        grind
    obtain⟨en',ahN,k1,k2,k3,k4⟩:=key
    have kp:bL E w E (w.putObj g (.map en' ahN)):=⟨fun i hi=>World.putObj_heap_other (fun e=>h.hw.jY b _ g hbk q3 (e▸hi)),fun _ h=>h⟩
    have hrb:RB E (w.putObj g (.map en' ahN)) b (.map kd.ty vd.ty (bF kd.ty k' v' es0)):=
     ⟨dP h2 q1,dp eM hlen,g,en',ahN,q3,World.putObj_heap_same hlt,RM.mono kp k2,k3,k4⟩
    have hw2:=h.hw.write hbk (by simp) (fun i hi=>World.putObj_heap_other (fun e=>hi (by grind))) hrb
    refine⟨_,k1,h.carry kp (fun _ _=>⟨rfl,rfl,rfl⟩) hw2,trivial,⟨rfl,Tp.r rfl rfl,rfl,by simp,?_,fun _ h=>h,fun _ h=>Or.inl h,fun i hi=>Or.inl (Own.na hbk hi),fun _ _=>⟨rfl,rfl,rfl⟩⟩⟩
    intro i hi ho
    exact World.putObj_heap_other (fun e=>ho ⟨b,_,hbk,by rw[e];exact Or.inl q3⟩)
   grind
  grind
 grind
end Go.Ax
namespace Go.Ax
def iU:List AV→AV
 |[]=>.nil
 |x::l=>.cons x (iU l)
def ub(fn:Fn)(fs cs:List AV):Option AV:=
 if(iU fs).atoms&&(iU cs).atoms then some (.func fn (iU fs) (iU cs)) else(match fn,fs,cs with
  | .func f,[.val t x],[]=>if t.isAgg then some (.dg f t x) else none
  |_,_,_=>none)
theorem oF{E:Env}{w:World}:∀{l:List Operand}{ev:Operand→AV}{f:Operand→Value},(∀x∈l,RV E w (ev x) (f x))→(iU (l.map ev)).atoms=true→RC E w (iU (l.map ev)) (l.map f)
 |[],_,_,_,_=>rfl
 |
  x::l,ev,f,h,ha=>by
  simp only[dX,iU,AV.atoms,aW] at ha ⊢
  exact⟨[f x],l.map f,rfl,RV.atom ha.1 (h x (dK ..)),oF (fun y hy=>h y (eH _ hy)) ha.2⟩
def nu(ev:Operand→AV)(ps:Array (Nat×Operand)):List (Nat×AV):=ps.toList.map fun x=>(x.1,ev x.2)
theorem lh{E:Env}{w:World}{ev:Operand→AV}{f:Operand→Value}:∀{ps:List (Nat×Operand)},(∀x∈ps,RV E w (ev x.2) (f x.2))→RP E w (ps.map fun x=>(x.1,ev x.2)) (ps.map fun x=>(x.1,f x.2))
 |[],_=>trivial
 |x::_l,h=>⟨rfl,h x (dK ..),lh (fun y hy=>h y (eH _ hy))⟩
def uc(P:Program)(G:bR)(d:Nat)(op:Op)(ev:Operand→AV)(hb:Nat→Option aN):Option fH:=
 match op with
 | .build t ps=>(xX G t (nu ev ps)).map .one
 | .buildSlice t n ps=>(la G d t n (nu ev ps)).map fun y=>⟨y.1,[(d,some y.2)],[d],[]⟩
 | .makeFunc fn fs cs=>(ub fn (fs.toList.map ev) (cs.toList.map ev)).map .one
 | .slice t x lo hi mx=>(xZ G hb t (ev x) (lo.map ev) (hi.map ev) (mx.map ev)).map .KT
 | .makeSlice t l c=>mo G d t (ev l) (ev c)
 | .convert s t x=>(ya G hb s t (ev x)).map .one
 | .binOp o t x y _=>(PR P G o t (ev x) (ev y)).map .KT
 | .call {callee:=.builtin .append,args:=⟨[x,y]⟩,argTypes:=⟨[t,t2]⟩}=>tT G hb d t t2 (ev x) (ev y)
 | .call {callee:=.builtin .copy,args:=⟨[x,y]⟩,argTypes:=⟨[t,_]⟩}=>B9 G hb t (ev x) (ev y)
 | .call {callee:=.builtin .clear,args:=⟨[x]⟩,argTypes:=⟨[t]⟩}=>yb G hb t (ev x)
 | .makeMap t none=>qJ G d t
 | .lookup t x i ok=>(mq P G hb t (ev x) (ev i) ok).map .KT
 | .mapUpdate t x k v=>jZ P G hb t (ev x) (ev k) (ev v)
 | .insert t x k v=>jZ P G hb t (ev x) (ev k) (ev v)
 |_=>none
theorem ye{E:Env}{w:World}{ev:Operand→AV}{f:Operand→Value}{o:Option Operand}(h:∀x,o=some x→RV E w (ev x) (f x)):RO E w (o.map ev) (o.map f):=by
 cases o with
 |none=>trivial
 |some x=>exact h x rfl
theorem HS{P:Program}{G:bR}(T:bD P G){gl:Ctx}{σ:St}{E:Env}{a:Act}{w:World}(h:bX gl σ E a w){o:Oper}{d:Nat}{ev:Operand→AV}{hb:Nat→Option aN}(hB:HB hb σ.hp){r:fH}
 (hev:∀x∈o.op.operands.toList,RV E w (ev x) (a.eval x)) (he:uc P G d o.op ev hb=some r) (hvc:dC r.vc) (hfr:∀b∈r.fr,σ.fresh b):bT P gl σ E a w o r:=by
 unfold uc at he
 split at he
 ·rename_i t ps hop
  obtain⟨u,hu,rfl⟩:=Option.map_eq_some_iff.1 he
  have hp:RP E w (nu ev ps) (ps.map fun(i,x)=>(i,a.eval x)).toList:=by
   rw[Array.toList_map]
   refine lh (fun x hx=>hev x.2 ?_)
   simp only[hop,Op.operands,List.mem_map]
   grind
  obtain⟨v,h1,h2⟩:=run_build T hp hu
  exact bT.same h (v:=v) (by simp[execOp,hop,h1]) h2
 ·rename_i t n ps hop
  obtain⟨⟨u,k⟩,hu,rfl⟩:=Option.map_eq_some_iff.1 he
  have hp:RP E w (nu ev ps) (ps.map fun(i,x)=>(i,a.eval x)).toList:=by
   rw[Array.toList_map]
   refine lh (fun x hx=>hev x.2 ?_)
   simp only[hop,Op.operands,List.mem_map]
   grind
  obtain⟨v,w',E',h1,h2,h3,h4⟩:=sH T h (hfr d (by simp)) hp hu
  exact⟨_,v,w',E',by simp[execOp,hop,h1],Or.inl rfl,h2,h3,h4⟩
 ·rename_i fn fs cs hop
  obtain⟨u,hu,rfl⟩:=Option.map_eq_some_iff.1 he
  unfold ub at hu
  split at hu
  ·rename_i hc
   cases hu
   simp only[aW] at hc
   have h1:RC E w (iU (fs.toList.map ev)) (fs.toList.map a.eval):=oF (fun x hx=>hev x (by grind [Op.operands])) hc.1
   have h2:RC E w (iU (cs.toList.map ev)) (cs.toList.map a.eval):=oF (fun x hx=>hev x (by grind [Op.operands])) hc.2
   exact bT.same h (v:=.func fn (fs.map a.eval) (cs.map a.eval)) (by simp[execOp,hop,Instr.makeFunc]) (RV.ef (Or.inr ⟨rfl,fs.map a.eval,cs.map a.eval,rfl,by simp_all,by simp_all,hc.1,hc.2⟩))
  ·split at hu
   ·rename_i f t x e1 e2
    split at hu
    ·rename_i ha
     cases hu
     obtain⟨o,ho,hx⟩:∃o,fs.toList= [o]∧ev o= .val t x:=by
      simp_all
     have hcs:cs.toList= []:=List.map_eq_nil_iff.1 e2
     have hv:=hev o (by grind [Op.operands])
     rw[hx] at hv
     have hv0:cK E w (.val t x) (a.eval o):=hv
     rcases hv0 with⟨_,cl,e,ah7⟩|⟨hn,_⟩
     ·refine bT.same h (v:=.func (.func f) (fs.map a.eval) (cs.map a.eval)) (by simp[execOp,hop,Instr.makeFunc]) (RV.ef (Or.inr ⟨rfl,ha,cl,?_,ah7⟩))
      have e3:fs.map a.eval= #[.agg cl]:=by grind [Array.toList_map]
      simp_all
     grind [AV.isAgg]
    grind
   grind
 ·rename_i t x lo hi mx hop
  obtain⟨⟨u,vc⟩,hu,rfl⟩:=Option.map_eq_some_iff.1 he
  have mem:∀y,y=x∨lo=some y∨hi=some y∨mx=some y→RV E w (ev y) (a.eval y):=by
   simp_all[Op.operands]
  obtain⟨v,h1,h2⟩:=B7 T h.hw hB (mem x (Or.inl rfl)) (ye (f:=a.eval) fun y hy=>mem y (Or.inr (Or.inl hy))) (ye (f:=a.eval) fun y hy=>mem y (Or.inr (Or.inr (Or.inl hy)))) (ye (f:=a.eval) fun y hy=>mem y (Or.inr (Or.inr (Or.inr hy)))) hu hvc
  exact bT.same h (v:=v) (by simp[execOp,hop,h1]) h2
 ·rename_i t l c hop
  obtain⟨v,w',E',h1,h2,h3,h4⟩:=tW T h (hev l (by simp[hop,Op.operands])) (hev c (by simp[hop,Op.operands])) he hvc hfr
  exact⟨_,v,w',E',by simp[execOp,hop,h1],Or.inl rfl,h2,h3,h4⟩
 ·rename_i s t x hop
  obtain⟨u,hu,rfl⟩:=Option.map_eq_some_iff.1 he
  obtain⟨v,w',E',h1,h2,h3,h4⟩:=B8 T h hB (hev x (by simp[hop,Op.operands])) hu
  exact⟨_,v,w',E',by simp[execOp,hop,h1],Or.inl rfl,h2,h3,h4⟩
 ·rename_i bo t x y t2 hop
  obtain⟨⟨u,vc⟩,hu,rfl⟩:=Option.map_eq_some_iff.1 he
  obtain⟨h0,v,h1,h2⟩:=KX T (ox:=x) (oy:=y) (hev x (by simp[hop,Op.operands])) (hev y (by simp[hop,Op.operands])) hu hvc
  exact bT.same h (v:=v) (by simp[execOp,hop,h0,h1]) h2
 ·rename_i x y t t2 hop
  obtain⟨v,w',E',h1,h2,h3,h4⟩:=Ar T (ty:=o.type) h hB (hev x (by simp[hop,Op.operands,Call.operands])) (hev y (by simp[hop,Op.operands,Call.operands])) he hvc hfr
  refine⟨_,v,w',E',?_,Or.inl rfl,h2,h3,h4⟩
  simp[execOp,hop,resolve,invoke,builtin,h1]
 ·rename_i x y t t2 hop
  obtain⟨v,w',h1,h2,h3,h4⟩:=GD T (t2:=t2) (ty:=o.type) h hB (hev x (by simp[hop,Op.operands,Call.operands])) (hev y (by simp[hop,Op.operands,Call.operands])) he
  refine⟨_,v,w',E,?_,Or.inl rfl,h2,h3,h4⟩
  simp[execOp,hop,resolve,invoke,builtin,h1]
 ·rename_i x t hop
  obtain⟨v,w',h1,h2,h3,h4⟩:=Ca T (ty:=o.type) h hB (hev x (by simp[hop,Op.operands,Call.operands])) he
  refine⟨_,v,w',E,?_,Or.inl rfl,h2,h3,h4⟩
  simp[execOp,hop,resolve,invoke,builtin,h1]
 ·rename_i t hop
  obtain⟨v,w',E',h1,h2,h3,h4⟩:=yc T (P:=P) (rs:=none) h (fun v hv=>by cases hv) he hfr
  exact⟨_,v,w',E',by simp[execOp,hop,h1],Or.inl rfl,h2,h3,h4⟩
 ·rename_i t x i ok hop
  obtain⟨⟨u,vc⟩,hu,rfl⟩:=Option.map_eq_some_iff.1 he
  obtain⟨v,h1,h2⟩:=Ay T h.hw hB (hev x (by simp[hop,Op.operands])) (hev i (by simp[hop,Op.operands])) hu hvc
  exact bT.same h (v:=v) (by simp[execOp,hop,h1]) h2
 ·rename_i t x k v hop
  obtain⟨w',h1,h2,h4,h3⟩:=mr T h hB (hev x (by simp[hop,Op.operands])) (hev k (by simp[hop,Op.operands])) (hev v (by simp[hop,Op.operands])) he hvc
  exact⟨_,undef,w',E,by simp[execOp,hop,h1],Or.inr ⟨rfl,rfl⟩,h2,h4,h3⟩
 ·rename_i t x k v hop
  obtain⟨w',h1,h2,h4,h3⟩:=mr T h hB (hev x (by simp[hop,Op.operands])) (hev k (by simp[hop,Op.operands])) (hev v (by simp[hop,Op.operands])) he hvc
  exact⟨_,undef,w',E,by simp[execOp,hop,h1],Or.inr ⟨rfl,rfl⟩,h2,h4,h3⟩
 grind
end Go.Ax
namespace Go.Ax
def k8:List (Nat×Nat)→Nat→Option Nat
 |[],_=>none
 |(a,b)::l,x=>if Nat.beq a x then some b else k8 l x
def AV.eW(m:List (Nat×Nat)):AV→Option AV
 | .own b=>(k8 m b).map .own
 | .jV b lo len=>(k8 m b).map fun c=>.jV c lo len
 | .jy b p lo len=>(k8 m b).map fun c=>.jy c p lo len
 | .ptr b p=>(k8 m b).map fun c=>.ptr c p
 | .mp b=>(k8 m b).map .mp
 |
  .func fn fs cs=>match fs.eW m,cs.eW m with
  |some f,some c=>if f.atoms&&c.atoms then some (.func fn f c) else none
  |_,_=>none
 |
  .iface t v=>match v.eW m with
  |some u=>if u.isAgg==v.isAgg then some (.iface t u) else none
  |none=>none
 |
  .cons a b=>match a.eW m,b.eW m with
  |some x,some y=>some (.cons x y)
  |_,_=>none
 | .gJ l=>(l.eW m).map .gJ
 | .opt _ _=>none
 | .fE _=>none
 |x=>some x
structure Rn(m:List (Nat×Nat))(E E':Env):Prop where
 at':∀b c,k8 m b=some c→E'.g c=E.g b∧E'.sv c=E.sv b∧E'.bt c=E.bt b
 S:∀g,E.S g→E'.S g
theorem AV.KY{m:List (Nat×Nat)}{x y:AV}(h:x.eW m=some y):y.isAgg=x.isAgg:=by
 cases x with
 |own b=>simp only[AV.eW,fL] at h;obtain⟨c,_,rfl⟩:=h;rfl
 |jV b lo len=>simp only[AV.eW,fL] at h;obtain⟨c,_,rfl⟩:=h;rfl
 |jy b p lo len=>simp only[AV.eW,fL] at h;obtain⟨c,_,rfl⟩:=h;rfl
 |ptr b p=>simp only[AV.eW,fL] at h;obtain⟨c,_,rfl⟩:=h;rfl
 |mp b=>simp only[AV.eW,fL] at h;obtain⟨c,_,rfl⟩:=h;rfl
 |
  func fn fs cs=>
  simp only[AV.eW] at h
  split at h
  ·split at h
   ·cases h;rfl
   grind
  grind
 |
  iface t v=>
  simp only[AV.eW] at h
  split at h
  ·split at h
   ·cases h;rfl
   grind
  grind
 |
  cons a b=>
  simp only[AV.eW] at h
  split at h
  ·cases h;rfl
  grind
 |gJ l=>simp only[AV.eW,fL] at h;obtain⟨c,_,rfl⟩:=h;rfl
 |opt c v=>trivial
 |fE c=>trivial
 |_=>grind [AV.eW]
theorem RC.eW{m:List (Nat×Nat)}{E E':Env}{w:World}(r:Rn m E E'):∀{x y:AV}{vs:List Value},x.eW m=some y→RC E w x vs→RC E' w y vs:=by
 intro x
 have kp:bL E w E' w:=⟨fun _ _=>rfl,r.S⟩
 induction x with
 |
  own b=>
  intro y vs h hr
  simp only[AV.eW,fL] at h
  obtain⟨c,hc,rfl⟩:=h
  obtain⟨_,e2,_⟩:=r.at' b c hc
  grind [RC]
 |
  jV b lo len=>
  intro y vs h hr
  simp only[AV.eW,fL] at h
  obtain⟨c,hc,rfl⟩:=h
  obtain⟨_,e2,e3⟩:=r.at' b c hc
  obtain⟨a,c',n,t,hr⟩:=hr
  exact⟨a,c',n,t,by grind⟩
 |
  jy b p lo len=>
  intro y vs h hr
  simp only[AV.eW,fL] at h
  obtain⟨c,hc,rfl⟩:=h
  obtain⟨e1,e2,e3⟩:=r.at' b c hc
  obtain⟨n,t,hr⟩:=hr
  exact⟨n,t,by grind⟩
 |
  ptr b p=>
  intro y vs h hr
  simp only[AV.eW,fL] at h
  obtain⟨c,hc,rfl⟩:=h
  obtain⟨e1,e2,e3⟩:=r.at' b c hc
  obtain⟨g,hr⟩:=hr
  exact⟨g,by grind⟩
 |
  mp b=>
  intro y vs h hr
  simp only[AV.eW,fL] at h
  obtain⟨c,hc,rfl⟩:=h
  obtain⟨e1,e2,e3⟩:=r.at' b c hc
  obtain⟨g,hr⟩:=hr
  exact⟨g,by grind⟩
 |
  func fn fs cs ih1 ih2=>
  intro y vs h hr
  simp only[AV.eW] at h
  split at h
  ·rename_i f c hf hc
   split at h
   ·rename_i ha
    cases h
    simp only[aW] at ha
    obtain⟨f',c',e,r1,r2,r3,r4⟩:=hr
    exact⟨f',c',e,ih1 hf r1,ih2 hc r2,ha.1,ha.2⟩
   grind
  grind
 |
  iface t v ih=>
  intro y vs h hr
  simp only[AV.eW] at h
  split at h
  ·rename_i u hu
   split at h
   ·rename_i ha
    cases h
    have ha:u.isAgg=v.isAgg:=by grind
    obtain⟨x,e,hr⟩:=hr
    refine⟨x,e,?_⟩<;>grind
   grind
  grind
 |
  cons a b ih1 ih2=>
  intro y vs h hr
  simp only[AV.eW] at h
  split at h
  ·rename_i x' y' h1 h2
   cases h
   obtain⟨v1,v2,e,r1,r2⟩:=hr
   exact⟨v1,v2,e,ih1 h1 r1,ih2 h2 r2⟩
  grind
 |gJ l=>intro y vs h hr;trivial
 |opt c v=>intro y vs h hr;trivial
 |val t x=>intro y vs h hr;simp only[AV.eW,dn] at h;subst h;exact Rel.mono kp.w kp.S hr
 |cI t x=>intro y vs h hr;simp only[AV.eW,dn] at h;subst h;exact RC.mono kp (fun b hb=>by cases hb) (a:=.cI t x) hr
 |dg f t x=>intro y vs h hr;simp only[AV.eW,dn] at h;subst h;exact RC.mono kp (fun b hb=>by cases hb) (a:=.dg f t x) hr
 |fE c=>intro y vs h;trivial
 |_=>intro y vs h hr;simp only[AV.eW,dn] at h;subst h;exact hr
theorem cK.eW{m:List (Nat×Nat)}{E E':Env}{w:World}(r:Rn m E E'){x y:AV}{v:Value}(h:x.eW m=some y)(hr:cK E w x v):cK E' w y v:=by
 have ha:=AV.KY h
 rcases hr with⟨h1,cs,e,h2⟩|⟨h1,h2⟩
 ·exact Or.inl ⟨by grind,cs,e,RC.eW r h h2⟩
 ·exact Or.inr ⟨by grind,RC.eW r h h2⟩
theorem RT.eW{m:List (Nat×Nat)}{E E':Env}{w:World}(r:Rn m E E'):∀{x y:AV}{vs:List Value},x.eW m=some y→RT E w x vs→RT E' w y vs:=by
 intro x
 induction x with
 |
  cons a b ih1 ih2=>
  intro y vs h hr
  simp only[AV.eW] at h
  split at h
  ·rename_i x' y' h1 h2
   cases h
   cases vs with
   |nil=>trivial
   |cons v vs=>exact⟨cK.eW r h1 hr.1,ih2 h2 hr.2⟩
  grind
 |nil=>intro y vs h hr;simp only[AV.eW,dn] at h;subst h;exact hr
 |_=>intro y vs h hr;trivial
theorem RV.eW{m:List (Nat×Nat)}{E E':Env}{w:World}(r:Rn m E E'){x y:AV}{v:Value}(h:x.eW m=some y)(hr:RV E w x v):RV E' w y v:=by
 cases x with
 |bot=>simp only[AV.eW,dn] at h;subst h;trivial
 |
  gJ l=>
  simp only[AV.eW,fL] at h
  obtain⟨l',h,rfl⟩:=h
  obtain⟨vs,e,hr⟩:=hr
  exact⟨vs,e,RT.eW r h hr⟩
 |opt c a=>trivial
 |_=>exact RV.ef (cK.eW r h hr)
def aN.eW(m:List (Nat×Nat)):aN→Option aN
 |
  .var t v=>match v.eW m with
  |some u=>if u.cE t then some (.var t u) else none
  |none=>none
 |
  .tv g t v=>match v.eW m with
  |some u=>if u.cE t then some (.tv g t u) else none
  |none=>none
 |
  .bW e bs t xs i v=>match v.eW m with
  |some u=>if u.cE t then some (.bW e bs t xs i u) else none
  |none=>none
 | .da _ _ _ _ _ (some _)| .pmap _ _ _ _ (some _)| .gE .. | .ia .. =>none
 |k=>some k
theorem RB.eW{m:List (Nat×Nat)}{E E':Env}{w:World}(r:Rn m E E'){b c:Nat}(hc:E'.g c=E.g b∧E'.sv c=E.sv b∧E'.bt c=E.bt b){k k':aN}(hP:k.JF=true→∀g,E.P b g→E'.P c g)(h:k.eW m=some k')(hk:RB E w b k):RB E' w c k':=by
 obtain⟨e1,e2,e3⟩:=hc
 have kp:bL E w E' w:=⟨fun _ _=>rfl,r.S⟩
 cases k with
 |
  var t v=>
  simp only[aN.eW] at h
  split at h
  ·rename_i u hu
   split at h
   ·rename_i hconf
    cases h
    obtain⟨h1,h2,g,c',e,h3,h4,h5⟩:=hk
    exact⟨by grind,hconf,g,c',e,by grind,h4,RC.eW r hu h5⟩
   grind
  grind
 |
  row e bs t xs=>
  simp only[aN.eW,dn] at h;subst h
  obtain⟨h1,h2,h3,h4,a,cap,h5,h6,h7⟩:=hk
  refine⟨by grind,h2,h3,h4,a,cap,by grind,h6,?_⟩
  rcases h7 with⟨h7,h8,h9⟩|⟨g,c',h7,h8,h9,h10,h11,h12⟩
  ·grind
  ·exact Or.inr ⟨g,c',by grind,h8,h9,h10,h11,aV.mono (fun _ _=>Rel.mono kp.w kp.S) h12⟩
 |
  map kt vt es=>
  simp only[aN.eW,dn] at h;subst h
  obtain⟨h1,h1',g,en,clock,h2,h3,h4,h5,h6⟩:=hk
  exact⟨h1,h1',g,en,clock,by grind,h3,RM.mono kp h4,h5,h6⟩
 |
  mf k v rest cur=>
  simp only[aN.eW,dn] at h;subst h
  obtain⟨g,om,since,seen,c0,q1,q2,q3⟩:=hk
  refine⟨g,om,since,seen,c0,by grind,q2,q3.imp id ?_⟩
  rintro⟨bm,en,r1,r2,r3,r4,r5,r6,r7,r8⟩
  refine⟨bm,en,r1,kp.S bm r2,r3,r4,r5,r6,RM.mono kp r7,fun x hx=>?_⟩
  obtain⟨e,s0,t1,t2,t3,t4⟩:=r8 x hx
  exact⟨e,s0,t1,t2,cK.mono kp (fun _ hb=>by cases hb) t3,cK.mono kp (fun _ hb=>by cases hb) t4⟩
 |
  da e bs t xs e2' f=>
  cases f with
  |some f=>trivial
  |
   none=>
   simp only[aN.eW,dn] at h;subst h
   obtain⟨h1,h2,h3,h4,h5,g,cap,c',og,q1,q2,q3,q4,q5,q6,q7,q8⟩:=hk
   refine⟨by grind,h2,h3,h4,h5,g,cap,c',og,by grind,q2,by grind,q4,q5,q6,q7.mono (hP rfl),fun i x hx=>?_⟩
   obtain⟨u,r1,r2,r3⟩:=q8 i x hx
   exact⟨u,r1,fun v hv=>(by cases hv),fun hv=>dh.mono kp.w kp.S (fun _ _=>rfl) (r3 (fun v hv=>by cases hv))⟩
 |
  pmap kt t es e2' f=>
  cases f with
  |some f=>trivial
  |
   none=>
   simp only[aN.eW,dn] at h;subst h
   obtain⟨h1,h2,h3,g,en,clock,og,q1,q2,q3,q4,q5,q6,q7,q8⟩:=hk
   refine⟨h1,h2,h3,g,en,clock,og,by grind,q2,q3,q4,q5.mono (hP rfl),q6,fun i x hx=>?_,fun kx v=>⟨fun hf=>(by cases hf),fun hf=>(by cases hf)⟩⟩
   obtain⟨m,r1,r2,r3,r4⟩:=q7 i x hx
   exact⟨m,r1,cK.mono kp (fun _ hb=>by cases hb) r2,fun v pr hv=>(by cases hv),fun hv=>dh.mono kp.w kp.S (fun _ _=>rfl) (r4 (fun v pr hv=>by cases hv))⟩
 |gE kt t es e2' kx v pr=>trivial
 |ia kt l=>trivial
 |lp l r=>simp only[aN.eW,dn] at h;subst h;exact⟨by rw[e1];exact hk.1,hk.2⟩
 |wu=>simp only[aN.eW,dn] at h;subst h;obtain⟨g,h1,h2⟩:=hk;exact⟨g,by grind,h2⟩
 |
  tv g t v=>
  simp only[aN.eW] at h
  split at h
  ·rename_i u hu
   split at h
   ·rename_i hconf
    cases h
    obtain⟨h0,h1,h2,c',e,h4,h5⟩:=hk
    exact⟨by grind,by grind,hconf,c',e,h4,RC.eW r hu h5⟩
   grind
  grind
 |
  bW e bs t xs i v=>
  simp only[aN.eW] at h
  split at h
  ·rename_i u hu
   split at h
   ·rename_i hconf
    cases h
    obtain⟨h1,h2,h3,h4,h5,h6,g,cap,c',q1,q2,q3,q4,q5,q6,q7,q8,q9⟩:=hk
    exact⟨by grind,h2,h3,h4,h5,hconf,g,cap,c',by grind,q2,by grind,q4,q5,q6,aV.mono (fun _ _=>Rel.mono kp.w kp.S) q7,RC.eW r hu q8,aV.mono (fun _ _=>Rel.mono kp.w kp.S) q9⟩
   grind
  grind
theorem qK{hb:Nat→Option aN}:∀{x:AV}{m:Bool}{t:Ty}{y:AV}{l:List Nat},view hb x m t=some (y,l)→y.ids= []:=by
 intro x
 induction x with
 |val u x=>intro m t y l h;simp only[view,dn,il] at h;rw[←h.1];rfl
 |aF=>intro m t y l h;cases m<;>cases t<;>simp[view] at h<;>(rw[←h.1];rfl)
 |
  own b=>
  intro m t y l h
  have h':(match fI hb b with|some ⟨bs,t,xs⟩=>some (AV.val (.slice bs t) xs,[b])|none=>none)=some (y,l):=by trivial
  split at h'<;>cases h';rfl
 |
  jV b lo len=>
  intro m t y l h
  have h':(match fI hb b with|some ⟨bs,t,xs⟩=>some (AV.val (.slice bs t) ((xs.drop lo).take len),[b])|none=>none)=some (y,l):=by trivial
  split at h'<;>cases h';rfl
 |
  jy b p lo len=>
  intro m t y l h
  cases t with
  |
   slice bs u=>
   have h':(match hb b with
    |
     some (.var _ v)=>match v.get p with
     |some (.val (.arr n t) xs)=>if Nat.ble (n*bs) aG&&Nat.ble n aG then some (AV.val (.slice bs t) ((List.drop lo xs).take len),[b]) else none
     |_=>none
    |_=>none)=some (y,l):=by trivial
   split at h'
   ·split at h'
    ·split at h'
     ·cases h';rfl
     grind
    grind
   grind
  |_=>trivial
 |
  ptr b p=>
  intro m t y l h
  have h':(match hb b with
   |
    some k=>match ow k p,(jv k).sub p with
    |
     some u,some s=>match u.bM s with
     |some y=>some (AV.cI s y,[b])
     |none=>none
    |_,_=>none
   |none=>none)=some (y,l):=by trivial
  split at h'
  ·split at h'
   ·split at h'
    ·cases h';rfl
    grind
   grind
  grind
 |cI u x=>
  intro m t y l h;have h':some (AV.cI u x,([]:List Nat))=some (y,l):=by trivial
  cases h';rfl
 |
  func fn fs cs ih1 ih2=>
  grind [view,AV.ids]
 |
  cons a b ih1 ih2=>
  intro m t y l h
  cases m with
  |
   true=>
   grind [view,AV.ids]
  |
   false=>
   cases t with
   |
    pair s t=>
    simp only[view] at h
    split at h
    ·cases h;rfl
    grind
   |_=>trivial
 |nil=>intro m t y l h;cases m<;>cases t<;>simp[view] at h<;>(rw[←h.1];rfl)
 |gK=>
  intro m t y l h;have h':some (AV.gK,([]:List Nat))=some (y,l):=by trivial
  cases h';rfl
 |fN=>
  intro m t y l h;have h':some (AV.fN,([]:List Nat))=some (y,l):=by trivial
  cases h';rfl
 |
  mp b=>
  intro m t y l h
  have h':(match hb b with
   |some (.map k v es)=>some (AV.val (.map k v) (some es),[b])
   |_=>none)=some (y,l):=by trivial
  split at h'
  ·cases h';rfl
  grind
 |
  dg f u x=>
  intro m t y l h
  have h':some (AV.dg f u x,([]:List Nat))=some (y,l):=by trivial
  cases h';rfl
 |_=>grind [view]
def PT(φ:List (Nat×Nat))(hb:Nat→Option aN)(x:AV)(t:Ty):Option (AV×List Nat):=
 if x.ids.isEmpty then(match view hb x false t with
  |some r=>some r
  |none=>(x.eW φ).map fun y=>(y,[]))
 else match x.eW φ with
  |some y=>some (y,[])
  |none=>view hb x false t
def lV(φ:List (Nat×Nat))(hb:Nat→Option aN):List (AV×Ty)→Option (List AV×List Nat)
 |[]=>some ([],[])
 |
  (x,t)::l=>if x.plain then(match PT φ hb x t,lV φ hb l with
  |some (y,m),some (ys,ms)=>some (y::ys,m++ms)
  |_,_=>none) else none
theorem mw{gl:Ctx}{E E0:Env}{w:World}{hp:List (Option aN)}(hw:HW gl E w hp){hb:Nat→Option aN}(hB:HB hb hp){φ:List (Nat×Nat)}(hφ:∀b c,k8 φ b=some c→E0.g c=E.g b∧E0.sv c=E.sv b∧E0.bt c=E.bt b):
 ∀{l:List (AV×Ty)}{ys:List AV}{ms:List Nat}{vs:List Value},lV φ hb l=some (ys,ms)→(∀g,(E.cX ms).S g→E0.S g)→kF E w (l.map (·.1)) vs→kF E0 w ys vs
 |
  [],ys,ms,vs,h,_,hr=>by
  cases h
  cases vs with
  |nil=>trivial
  |cons _ _=>trivial
 |
  (x,t)::l,ys,ms,vs,h,hS,hr=>by
  unfold lV at h
  split at h
  ·rename_i hp
   split at h
   ·rename_i y m ys' ms' h1 h2
    cases h
    cases vs with
    |nil=>exact hr.elim
    |
     cons v vs=>
     have hS1:∀g,(E.cX m).S g→E0.S g:=fun g hg=>hS g (hg.imp id (fun⟨b,hb,e⟩=>⟨b,List.mem_append.2 (Or.inl hb),e⟩))
     have hS2:∀g,(E.cX ms').S g→E0.S g:=fun g hg=>hS g (hg.imp id (fun⟨b,hb,e⟩=>⟨b,List.mem_append.2 (Or.inr hb),e⟩))
     refine⟨?_,mw hw hB hφ h2 hS2 hr.2⟩
     have hview:view hb x false t=some (y,m)→RV E0 w y v:=fun hv=>by
      have k1:=Ao hw hB hv (RV.jD hp hr.1)
      exact RV.ef (cK.mono (E:=E.cX m) (E':=E0) ⟨fun _ _=>rfl,hS1⟩ (by rw[qK hv];intro b hb;cases hb) k1)
     unfold PT at h1
     split at h1
     ·split at h1
      ·rename_i r hr';cases h1;exact hview hr'
      ·obtain⟨z,hz,e⟩:=Option.map_eq_some_iff.1 h1
       cases e
       exact RV.eW ⟨hφ,fun g hg=>hS1 g (Or.inl hg)⟩ hz hr.1
     ·split at h1
      ·rename_i z hz
       cases h1
       exact RV.eW ⟨hφ,fun g hg=>hS1 g (Or.inl hg)⟩ hz hr.1
      ·exact hview h1
   ·cases h
  ·cases h
theorem lk{φ:List (Nat×Nat)}{hb:Nat→Option aN}:∀{l:List (AV×Ty)}{ys:List AV}{ms:List Nat},lV φ hb l=some (ys,ms)→∀b∈ms,∃k,hb b=some k
 |[],ys,ms,h=>by cases h<;>grind
 |
  (x,t)::l,ys,ms,h=>by
  unfold lV at h
  split at h
  ·split at h
   ·rename_i y m ys' ms' h1 h2
    cases h
    intro b hb'
    rcases List.mem_append.1 hb' with hb'|hb'
    ·unfold PT at h1
     split at h1
     ·split at h1
      ·rename_i r hr';cases h1;exact qH hr' b hb'
      ·obtain⟨z,hz,e⟩:=Option.map_eq_some_iff.1 h1
       cases e
       cases hb'
     ·split at h1
      ·cases h1;cases hb'
      ·exact qH h1 b hb'
    ·exact lk h2 b hb'
   ·cases h
  ·cases h
def ji(φ:List (Nat×Nat))(hb:Nat→Option aN):List (Nat×Nat)→Option (List (Nat×Option aN))
 |[]=>some []
 |
  (i,b)::l=>match hb b with
  |
   some k=>match k.eW φ,ji φ hb l with
   |some k',some m=>some ((i,some k')::m)
   |_,_=>none
  |none=>none
theorem oG{φ:List (Nat×Nat)}{hb:Nat→Option aN}:∀{l:List (Nat×Nat)}{m:List (Nat×Option aN)}{i:Nat}{k:aN},ji φ hb l=some m→(i,some k)∈m→∃b k0,(i,b)∈l∧hb b=some k0∧k0.eW φ=some k
 |[],m,i,k,h,hm=>by cases h;cases hm
 |
  (j,b)::l,m,i,k,h,hm=>by
  unfold ji at h
  split at h
  ·rename_i k0 hk0
   split at h
   ·rename_i k' m' h1 h2
    cases h
    cases hm with
    |head=>exact⟨b,k0,dK ..,hk0,h1⟩
    |
     tail _ hm=>
     obtain⟨b',k1,q1,q2,q3⟩:=oG h2 hm
     exact⟨b',k1,eH _ q1,q2,q3⟩
   ·cases h
  ·cases h
theorem ei{c:Nat}{k:aN}:∀{l:List (Nat×Option aN)}{hp:List (Option aN)},(aR hp l)[c]? =some (some k)→(c,some k)∈l∨(c∉wrote l∧hp[c]? =some (some k))
 |[],hp,h=>Or.inr ⟨by simp[wrote],h⟩
 |
  (b,o)::l,hp,h=>by
  rw[aR] at h
  rcases ei h with h1|⟨h1,h2⟩
  ·grind
  ·rw[dA] at h2
   split at h2
   ·grind
   ·rename_i e
    refine Or.inr ⟨?_,h2⟩
    simp only[wrote,fa,not_or]
    grind
def kA:List Nat→Bool
 |[]=>true
 |x::l=> !cL x l&&kA l
theorem fV:∀{l:List Nat},kA l=true→l.Nodup
 |[],_=>List.nodup_nil
 |
  x::l,h=>by
  simp only[kA,aW,iE] at h
  exact List.nodup_cons.2 ⟨fh h.1,fV h.2⟩
theorem pt:∀{l:List (Nat×Nat)}{a b:Nat},k8 l a=some b→(a,b)∈l
 |[],a,b,h=>by cases h
 |
  (x,y)::l,a,b,h=>by
  unfold k8 at h
  split at h
  ·rename_i e;cases h;rw[bP e];exact dK ..
  ·exact eH _ (pt h)
theorem eJ:∀{l:List (Nat×Nat)}{a b:Nat},(l.map (·.1)).Nodup→(a,b)∈l→k8 l a=some b
 |
  (x,y)::l,a,b,hn,hm=>by
  simp only[dX,ou] at hn
  unfold k8
  cases hm with
  |head=>simp
  |
   tail _ hm=>
   have:x≠a:=fun e=>hn.1 (e▸List.mem_map.2 ⟨(a,b),hm,rfl⟩)
   have hb:Nat.beq x a=false:=by
    cases h:Nat.beq x a<;>simp_all
   rw[hb]
   exact eJ hn.2 hm
def swp(l:List (Nat×Nat)):List (Nat×Nat):=l.map fun x=>(x.2,x.1)
theorem j0{l:List (Nat×Nat)}{a b:Nat}:(a,b)∈swp l↔(b,a)∈l:=by
 unfold swp
 grind
def Pg:List (Nat×aN)→Nat→Option aN
 |[],_=>none
 |(i,k)::l,x=>if Nat.beq i x then some k else Pg l x
theorem Eu:∀{l:List (Nat×aN)}{a:Nat}{k:aN},Pg l a=some k→(a,k)∈l
 |[],a,b,h=>by cases h
 |
  (x,y)::l,a,b,h=>by
  unfold Pg at h
  split at h
  ·rename_i e;cases h;rw[bP e];exact dK ..
  ·exact eH _ (Eu h)
def dm(m:Nat)(out:List (Nat×aN)):List (Option aN):=aR (List.replicate m none) (out.map fun x=>(x.1,some x.2))
theorem yf{m:Nat}:∀{out:List (Nat×aN)}{hp:List (Option aN)}{i:Nat}{k:aN},(out.map (·.1)).Nodup→(i,k)∈out→i<hp.length→(aR hp (out.map fun x=>(x.1,some x.2)))[i]? =some (some k)
 |
  (j,k')::out,hp,i,k,hn,hm,hl=>by
  simp only[dX,ou] at hn
  rw[dX,aR]
  cases hm with
  |
   head=>
   have hw:∀(l:List (Nat×aN)),j∉l.map (·.1)→j∉wrote (l.map fun x=>(x.1,some x.2)):=by
    intro l
    induction l with
    |nil=>simp[wrote]
    |cons x l ih=>simp_all[wrote]
   grind [eF]
  |tail _ hm=>exact yf (m:=m) hn.2 hm (by grind)
end Go.Ax
namespace Go.Ax
structure CR where
 r:AV
 ps:List (Nat×Nat)
 ns:List (Nat×Nat)
 out:List (Nat×aN)
 m:Nat
 j4:Bool:=false
 ks:List (Nat×Nat):=[]
 us:List Nat:=[]
def CR.al(cr:CR):List (Nat×Nat):=match cr.ks with
 |[]=>cr.ps
 |k::ks=>cr.ps++k::ks
theorem CR.sub{cr:CR}{x:Nat×Nat}(h:x∈cr.ps):x∈cr.al:=by
 grind [CR.al]
theorem CR.S0(cr:CR):cr.ps.Sublist cr.al:=by
 grind [CR.al]
def CR.fin(cr:CR):vO:=if cr.j4 then .j4 cr.r else .ret cr.r
def Ty.wT:Ty→Bool
 | .slice _ t=>t.flat
 | .map k v=>k.flat&&v.flat
 |_=>false
theorem iz.flat{w w':World}{S S':Nat→Prop}{t:Ty}(hf:t.flat=true){v:Value}{x:t.den}(h:iz t.isAgg (Rel w S t) v x):iz t.isAgg (Rel w' S' t) v x:=iz.mono (fun _ _=>Rel.flat hf) h
theorem dh.flat{w:World}{S S':Nat→Prop}{e:TypeId}{t:Ty}{v:Value}{og:Option Nat}{x:t.den}(hf:t.wT=true)(h:dh w S e t v og x):dh w S' e t v og x:=by
 cases t with
 |
  slice bs t=>
  obtain⟨h1,h2,h3,a,cap,h4,h5,h6⟩:=h
  refine⟨h1,h2,h3,a,cap,h4,h5,h6.imp id ?_⟩
  rintro⟨g,c,k1,k2,k3,k4,k5,k6⟩
  exact⟨g,c,k1,k2,k3,k4,k5,aV.mono (fun _ _=>Rel.flat hf) k6⟩
 |
  map k u=>
  simp only[Ty.wT,aW] at hf
  obtain⟨es,h0,h1,h2,g,en,clock,h3,h4,h5,h6,h7⟩:=h
  exact⟨es,h0,h1,h2,g,en,clock,h3,h4,h5,jX.mono (fun _ _=>iz.flat hf.1) (fun _ _=>iz.flat hf.2) h6,h7⟩
 |_=>trivial
def aN.fM:aN→Bool
 | .var _ v=>v.fM
 | .tv _ _ v=>v.fM
 | .bW _ _ t _ _ v=>t.flat&&v.fM
 | .row _ _ t _=>t.flat
 | .map k v _=>k.flat&&v.flat
 | .mf _ _ _ _=>false
 | .gE _ _ _ _ _ _ _=>false
 | .ia _ _=>false
 | .da _ _ t _ _ f=>t.wT&&f.isNone
 | .pmap k t _ _ f=>k.flat&&t.wT&&f.isNone
 |_=>true
theorem RM.flat{E E':Env}{w w':World}{k v:Ty}(hk:k.flat=true)(hv:v.flat=true):∀{l:List MapEntry}{xs:List (k.den×v.den)},RM E w k v l xs→RM E' w' k v l xs
 |[],[],_=>trivial
 |[],_::_,h=>h.elim
 |_::_,[],h=>h.elim
 |_::_,_::_,h=>⟨cK.flat (a:=.val k _) hk h.1,cK.flat (a:=.val v _) hv h.2.1,RM.flat hk hv h.2.2⟩
theorem RB.flat{E:Env}{w:World}{S:Nat→Prop}{b:Nat}{k:aN}(hf:k.fM=true)(h:RB E w b k):RB {E with S:=S} w b k:=by
 cases k with
 |
  var t v=>
  obtain⟨h1,h2,g,c,e,h3,h4,h5⟩:=h
  exact⟨h1,h2,g,c,e,h3,h4,RC.flat hf h5⟩
 |
  row e bs t xs=>
  obtain⟨h1,h2,h3,h4,a,cap,h5,h6,h7⟩:=h
  refine⟨h1,h2,h3,h4,a,cap,h5,h6,h7.imp id ?_⟩
  rintro⟨g,c,h7,h8,h9,h10,h11,h12⟩
  exact⟨g,c,h7,h8,h9,h10,h11,aV.mono (fun _ _=>Rel.flat hf) h12⟩
 |
  map kt vt es=>
  simp only[aN.fM,aW] at hf
  obtain⟨h1,h1',g,en,clock,h2,h3,h4,h5⟩:=h
  exact⟨h1,h1',g,en,clock,h2,h3,RM.flat hf.1 hf.2 h4,h5⟩
 |mf k v rest cur=>cases hf
 |gE kt t es e2' kx v pr=>cases hf
 |ia kt l=>cases hf
 |
  da e bs t xs e2' f=>
  simp only[aN.fM,aW,Option.isNone_iff_eq_none] at hf
  obtain⟨hf,hn⟩:=hf
  subst hn
  obtain⟨h1,h2,h3,h4,h5,g,cap,c',og,q1,q2,q3,q4,q5,q6,q7,q8⟩:=h
  refine⟨h1,h2,h3,h4,h5,g,cap,c',og,q1,q2,q3,q4,q5,q6,q7,fun i x hx=>?_⟩
  grind [dh.flat]
 |
  pmap kt t es e2' f=>
  simp only[aN.fM,aW,Option.isNone_iff_eq_none] at hf
  obtain⟨⟨hk,hf⟩,hn⟩:=hf
  subst hn
  obtain⟨h1,h2,h3,g,en,clock,og,q1,q2,q3,q4,q5,q6,q7,q8⟩:=h
  refine⟨h1,h2,h3,g,en,clock,og,q1,q2,q3,q4,q5,q6,fun i x hx=>?_,fun kx v=>⟨fun hf=>(by cases hf),fun hf=>(by cases hf)⟩⟩
  obtain⟨m,r1,r2,r3,r4⟩:=q7 i x hx
  exact⟨m,r1,cK.flat (a:=.val kt _) hk r2,fun v pr hv=>(by cases hv),fun hv=>dh.flat hf (r4 (fun v pr hv=>by cases hv))⟩
 |lp l r=>exact h
 |wu=>exact h
 |
  tv g t v=>
  obtain⟨h0,h1,h2,c,e,h4,h5⟩:=h
  exact⟨h0,h1,h2,c,e,h4,RC.flat hf h5⟩
 |
  bW e bs t xs i v=>
  simp only[aN.fM,aW] at hf
  obtain⟨h1,h2,h3,h4,h5,h6,g,cap,c,q1,q2,q3,q4,q5,q6,q7,q8,q9⟩:=h
  exact⟨h1,h2,h3,h4,h5,h6,g,cap,c,q1,q2,q3,q4,q5,q6,aV.mono (fun _ _=>Rel.flat hf.1) q7,RC.flat hf.2 q8,aV.mono (fun _ _=>Rel.flat hf.1) q9⟩
def HT(ψ:List (Nat×Nat))(out:List (Nat×aN))(i:Nat):Option aN:=
 match Pg out i with
 |some k=>k.eW ψ
 |none=>none
def me(ψ:List (Nat×Nat))(out:List (Nat×aN)):List (Nat×Nat)→List (Nat×Option aN)
 |[]=>[]
 |(i,b)::l=>(b,HT ψ out i)::me ψ out l
theorem Az{ψ:List (Nat×Nat)}{out:List (Nat×aN)}:∀{l:List (Nat×Nat)}{c:Nat}{k:aN},(c,some k)∈me ψ out l→∃i,(i,c)∈l∧HT ψ out i=some k
 |[],c,k,h=>by cases h
 |
  (i,b)::l,c,k,h=>by
  unfold me at h
  rcases List.mem_cons.1 h with h|h
  ·simp only[il] at h
   exact⟨i,by rw[h.1];exact dK ..,h.2.symm⟩
  ·obtain⟨j,h1,h2⟩:=Az h
   exact⟨j,eH _ h1,h2⟩
theorem ud{ψ:List (Nat×Nat)}{out:List (Nat×aN)}:∀{l:List (Nat×Nat)}{i b:Nat},(i,b)∈l→b∈wrote (me ψ out l)
 |
  (j,c)::l,i,b,h=>by
  unfold me
  simp only[wrote,fa]
  cases h with
  |head=>grind
  |tail _ h=>exact Or.inr (ud h)
def wq:List Nat→List Nat→Bool
 |[],_=>true
 |x::l,m=>cL x m&&wq l m
def AA(n:Nat):List Nat→Bool
 |[]=>true
 |x::l=>Nat.blt x n&&AA n l
theorem pv{n:Nat}:∀{l:List Nat},AA n l=true→∀x∈l,x<n
 |[],_,x,hx=>by cases hx
 |
  y::l,h,x,hx=>by
  simp only[AA,aW] at h
  cases hx with
  |head=>simp_all
  |tail _ hx=>exact pv h.2 x hx
def Ev:List Nat→List Nat→Bool
 |[],_=>true
 |x::l,m=> !cL x m&&Ev l m
theorem AB:∀{l m:List Nat},Ev l m=true→∀x∈l,x∉m
 |[],_,_,x,hx=>by cases hx
 |
  y::l,m,h,x,hx=>by
  simp only[Ev,aW,iE] at h
  cases hx with
  |head=>exact fh h.1
  |tail _ hx=>exact AB h.2 x hx
def pw:List (Nat×aN)→Bool
 |[]=>true
 |(_,k)::l=>k.fM&&pw l
theorem ue:∀{l:List (Nat×aN)},pw l=true→∀i k,(i,k)∈l→k.fM=true
 |[],_,i,k,h=>by cases h
 |
  (j,k')::l,hf,i,k,h=>by
  simp only[pw,aW] at hf
  cases h with
  |head=>exact hf.1
  |tail _ h=>exact ue hf.2 i k h
def yg(cr:CR)(lent:List Nat):Bool:=
 kA (cr.al.map (·.1))&&kA ((cr.al++cr.ns).map (·.2))&&AA 16 (cr.al.map (·.1))&&kA (cr.out.map (·.1))&&AA cr.m (cr.out.map (·.1))&&Ev lent (cr.ps.map (·.2))&&kA ((cr.al++cr.ns).map (·.1))&&
  (lent.isEmpty||(cr.r.fM&&pw cr.out))
def HU:AV→Option (Fn×List AV×List AV)
 | .func fn fs cs=>if Rv fn fs cs&&fs.atoms&&cs.atoms then some (fn,fs.toList,cs.toList) else none
 | .dg f t x=>some (.func f,[.val t x],[])
 |_=>none
theorem KZ{E:Env}{w:World}{a:AV}{v:Value}{fn:Fn}{fl cl:List AV}(h:HU a=some (fn,fl,cl))(hr:RV E w a v):∃f c,v= .func fn f c∧kF E w fl f.toList∧kF E w cl c.toList∧((∃g,fn= .func g)∨(∃l,fn= .yield l)∧fl= []∧cl= []):=by
 cases a with
 |
  func fn' fs cs=>
  simp only[HU] at h
  split at h
  ·rename_i hc
   cases h
   simp only[aW] at hc
   obtain⟨f',c',e,r1,r2,_,_⟩:=RV.atom rfl hr
   simp at e
   refine⟨f',c',e,kF.atoms hc.1.2 r1,kF.atoms hc.2 r2,?_⟩
   cases fn with
   |func g=>grind
   |
    yield l=>
    cases fs<;>simp[Rv] at hc
    cases cs<;>simp at hc
    exact Or.inr ⟨⟨l,rfl⟩,rfl,rfl⟩
   |_=>simp[Rv] at hc
  grind
 |
  dg f t x=>
  simp only[HU,dn,il] at h
  obtain⟨rfl,rfl,rfl⟩:=h
  obtain⟨ha,cs,e,ah7⟩:=RV.atom rfl hr
  simp at e
  exact⟨#[.agg cs], #[],e,⟨RV.ef (Or.inl ⟨ha,cs,rfl,ah7⟩),trivial⟩,trivial,Or.inl ⟨f,rfl⟩⟩
 |_=>trivial
def U6(n:String):List MS→Option MS
 |[]=>none
 |m::l=>if m.name==n then some m else U6 n l
theorem HV{n:String}:∀{l:List MS}{m:MS},U6 n l=some m→m∈l∧m.name=n
 |[],_,h=>by cases h
 |
  x::l,m,h=>by
  simp only[U6] at h
  split at h
  ·rename_i e;cases h;exact⟨dK ..,by simpa using e⟩
  ·obtain⟨h1,h2⟩:=HV h;exact⟨eH _ h1,h2⟩
def Ew(G:bR)(hb:Nat→Option aN)(name:String):AV→Option (FuncId×AV×Ty)
 |
  .iface t v=>match G.at t with
  |
   some td=>match U6 name td.ms with
   |
    some m=>match m.st with
    |none=>if v.plain then some (m.f,v,td.ty) else none
    |
     some (s,i,ft)=>match gS G hb s i v,G.at ft with
     |
      some a,some tf=>match vE G hb ft a with
      |some x=>if x.plain then some (m.f,x,tf.ty) else none
      |none=>none
     |_,_=>none
   |none=>none
  |none=>none
 |_=>none
def oH(P:Program)(G:bR)(gl:Ctx)(cr:CR)(ev:Operand→AV)(hb:Nat→Option aN)(c:Call):Option (fH×List Prop):=
 match c.callee with
 |
  .value cf=>match HU (ev cf) with
  |
   some (fn,fl,cl)=>
   match lV (swp cr.al) hb (fl.map (fun x=>(x,Ty.unit))++(c.args.toList.zip c.argTypes.toList).map (rM G ev)++cl.map (fun x=>(x,Ty.unit))),ji (swp cr.al) hb cr.ps,cr.r.eW (cr.al++cr.ns) with
   |some (L,lent),some ins,some r'=>if Nat.beq c.args.toList.length c.argTypes.toList.length&&yg cr lent then
    some (⟨r',me (cr.al++cr.ns) cr.out (cr.ps++cr.ns),cr.ns.map (·.2),[]⟩,[IE P gl fn L (aR (List.replicate cr.m none) ins) cr.fin (dm cr.m cr.out)]) else none
   |_,_,_=>none
  |_=>none
 |
  .invoke rv name=>match Ew G hb name (ev rv) with
  |
   some (f,x,xt)=>
   match lV (swp cr.al) hb ((x,xt)::(c.args.toList.zip c.argTypes.toList).map (rM G ev)),ji (swp cr.al) hb cr.ps,cr.r.eW (cr.al++cr.ns) with
   |some (L,lent),some ins,some r'=>if Nat.beq c.args.toList.length c.argTypes.toList.length&&yg cr lent then
    some (⟨r',me (cr.al++cr.ns) cr.out (cr.ps++cr.ns),cr.ns.map (·.2),[]⟩,[IE P gl (.func f) L (aR (List.replicate cr.m none) ins) cr.fin (dm cr.m cr.out)]) else none
   |_,_,_=>none
  |_=>none
 |_=>none
def Env.to(E:Env)(ps:List (Nat×Nat))(S:Nat→Prop):Env where
 g:=fun i=>match k8 ps i with|some b=>E.g b|none=>none
 sv:=fun i=>match k8 ps i with|some b=>E.sv b|none=>undef
 bt:=fun i=>match k8 ps i with|some b=>E.bt b|none=>.unit
 S:=S
 P:=fun i=>match k8 ps i with|some b=>E.P b|none=>fun _=>False
def Env.back(E E1:Env)(sns sall:List (Nat×Nat))(S:Nat→Prop):Env where
 g:=fun b=>match k8 sns b with|some i=>E1.g i|none=>E.g b
 sv:=fun b=>match k8 sns b with|some i=>E1.sv i|none=>E.sv b
 bt:=fun b=>match k8 sns b with|some i=>E1.bt i|none=>E.bt b
 S:=S
 P:=fun b=>match k8 sall b with|some i=>E1.P i|none=>E.P b
theorem uf{l:List (Nat×Nat)}{a:Nat}(h:a∉l.map (·.1)):k8 l a=none:=by
 cases hl:k8 l a with
 |none=>rfl
 |some b=>exact absurd (List.mem_map.2 ⟨(a,b),pt hl,rfl⟩) h
theorem PU{l m:List (Nat×Nat)}{a b:Nat}(h:k8 (l++m) a=some b):k8 l a=some b∨(a∉l.map (·.1)∧k8 m a=some b):=by
 induction l with
 |nil=>grind
 |
  cons x l ih=>
  obtain⟨x,y⟩:=x
  simp only[List.cons_append,k8] at h ⊢
  split at h
  ·grind
  ·rename_i e
   rw[aD e]
   rcases ih h with h1|⟨h1,h2⟩
   ·grind
   ·refine Or.inr ⟨?_,h2⟩
    simp only[dX,fa,not_or]
    exact⟨fun e'=>e (by simp_all),h1⟩
section
variable{P:Program} {gl:Ctx} {σ:St} {E:Env} {a:Act} {w:World} {hb:Nat→Option aN} {cr:CR} {lent:List Nat}
theorem sV(h:bX gl σ E a w)(hB:HB hb σ.hp)(hlent:∀b∈lent,∃k,hb b=some k){ins:List (Nat×Option aN)}(jW:ji (swp cr.al) hb cr.ps=some ins)(gL:yg cr lent=true):
 (∀b c,k8 (swp cr.al) b=some c→(E.to cr.al (E.cX lent).S).g c=E.g b∧(E.to cr.al (E.cX lent).S).sv c=E.sv b∧(E.to cr.al (E.cX lent).S).bt c=E.bt b)∧
 HW gl (E.to cr.al (E.cX lent).S) w (aR (List.replicate cr.m none) ins):=by
 simp only[yg,aW] at gL
 obtain⟨⟨⟨⟨⟨⟨⟨o1,o2⟩,o3⟩,o4⟩,o5⟩,o6⟩,o7⟩,o8⟩:=gL
 have n1:=fV o1
 have n2:=fV o2
 rw[r9] at n2
 have n2':=(List.nodup_append.1 n2).1
 have at0:∀b c,k8 (swp cr.al) b=some c→(E.to cr.al (E.cX lent).S).g c=E.g b∧(E.to cr.al (E.cX lent).S).sv c=E.sv b∧(E.to cr.al (E.cX lent).S).bt c=E.bt b:=by
  grind [eJ,j0,pt,Env.to]
 refine⟨at0,?_⟩
 have kp:bL E w (E.to cr.al (E.cX lent).S) w:=⟨fun _ _=>rfl,fun g hg=>Or.inl hg⟩
 have rep:∀(b:Nat)(k:aN),(List.replicate cr.m (none:Option aN))[b]? ≠some (some k):=by
  grind
 have get:∀(i:Nat)(k:aN),(aR (List.replicate cr.m none) ins)[i]? =some (some k)→∃b k0,(i,b)∈cr.ps∧hb b=some k0∧k0.eW (swp cr.al)=some k:=by
  intro i k hk
  rcases ei hk with h1|⟨_,h2⟩
  ·exact oG jW h1
  grind
 have gat:∀i b,(i,b)∈cr.ps→(E.to cr.al (E.cX lent).S).g i=E.g b∧(E.to cr.al (E.cX lent).S).sv i=E.sv b∧(E.to cr.al (E.cX lent).S).bt i=E.bt b:=by
  intro i b hib
  have:=eJ n1 (CR.sub hib)
  simp[Env.to,this]
 have hasAt:∀i b,(i,b)∈cr.ps→∀g,(E.to cr.al (E.cX lent).S).has i g↔E.has b g:=by
  intro i b hib g
  have:=eJ n1 (CR.sub hib)
  simp[Env.has,Env.to,this]
 refine⟨?_,?_,?_,?_,?_,?_⟩
 ·intro i k hk
  obtain⟨b,k0,h1,h2,h3⟩:=get i k hk
  exact RB.eW ⟨at0,kp.S⟩ (gat i b h1) (fun _ g hp=>by have:=eJ n1 (CR.sub h1);simpa[Env.to,this] using hp) h3 (h.hw.cM b k0 (hB b k0 h2))
 ·intro i i' k k' g hi hi' g1 g2
  obtain⟨b,k0,h1,h2,h3⟩:=get i k hi
  obtain⟨b',k0',h1',h2',h3'⟩:=get i' k' hi'
  have e:=h.hw.dW b b' k0 k0' g (hB _ _ h2) (hB _ _ h2') ((hasAt i b h1 g).1 g1) ((hasAt i' b' h1' g).1 g2)
  grind [eJ,swp,j0,CR.sub]
 ·intro i k g hi g1 hs
  obtain⟨b,k0,h1,h2,h3⟩:=get i k hi
  have g1:=(hasAt i b h1 g).1 g1
  rcases hs with hs|⟨c,hc,hg⟩
  ·exact h.hw.du b k0 g (hB _ _ h2) g1 hs
  ·obtain⟨k1,hk1⟩:=hlent c hc
   have e:=h.hw.dW c b k1 k0 g (hB _ _ hk1) (hB _ _ h2) (Or.inl hg) g1
   subst e
   exact AB o6 c hc (List.mem_map.2 ⟨(i,c),h1,rfl⟩)
 ·rintro g (hg|⟨b,hb',e⟩)
  ·exact h.hw.slt g hg
  ·obtain⟨k,hk⟩:=hlent b hb'
   exact Own.below h.hw ⟨b,k,hB b k hk,Or.inl e⟩
 ·exact h.hw.gj kp
 ·intro i k g hi g1
  obtain⟨b,k0,h1,h2,h3⟩:=get i k hi
  exact h.hw.below (hB _ _ h2) ((hasAt i b h1 g).1 (Or.inr g1))
theorem kG(h:bX gl σ E a w)(hB:HB hb σ.hp)(_hlent:∀b∈lent,∃k,hb b=some k){ins:List (Nat×Option aN)}(jW:ji (swp cr.al) hb cr.ps=some ins)(gL:yg cr lent=true)(hfr:∀b∈cr.ns.map (·.2),σ.fresh b)
 {E1:Env} {w1:World} (hW:HW gl E1 w1 (dm cr.m cr.out)) (hX:Ext gl.md (Own (aR (List.replicate cr.m none) ins) (E.to cr.al (E.cX lent).S)) (E.to cr.al (E.cX lent).S) w (Own (dm cr.m cr.out) E1) E1 w1)
 {v:Value} {r':AV} (hr':cr.r.eW (cr.al++cr.ns)=some r') (hR:RV E1 w1 cr.r v):
 ∃E',bX gl {σ with hp:=aR σ.hp (me (cr.al++cr.ns) cr.out (cr.ps++cr.ns))} E' a w1∧RV E' w1 r' v∧Ext gl.md (Own σ.hp E) E w (Own (aR σ.hp (me (cr.al++cr.ns) cr.out (cr.ps++cr.ns))) E') E' w1:=by
 have hok0:=gL
 simp only[yg,aW] at gL
 obtain⟨⟨⟨⟨⟨⟨⟨o1,o2⟩,o3⟩,o4⟩,o5⟩,o6⟩,o7⟩,o8⟩:=gL
 have n1:=fV o1
 have n2:=fV o2
 rw[r9] at n2
 have n2a:=(List.nodup_append.1 n2).1
 have n2b:=(List.nodup_append.1 n2).2.1
 have n4:=fV o4
 have nall0:((swp (cr.al++cr.ns)).map (·.1)).Nodup:=by
  grind [swp]
 have nall:((swp (cr.ps++cr.ns)).map (·.1)).Nodup:=
  List.Nodup.sublist (List.Sublist.map _ (List.Sublist.map _ (List.Sublist.append cr.S0 (List.Sublist.refl _)))) nall0
 have uniq:∀i j b,(i,b)∈cr.ps++cr.ns→(j,b)∈cr.ps++cr.ns→i=j:=by
  intro i j b h1 h2
  have q1:=eJ nall (j0.2 h1)
  have q2:=eJ nall (j0.2 h2)
  grind
 have disj:∀b,b∈cr.al.map (·.2)→b∉cr.ns.map (·.2):=fun b h1 h2=>(List.nodup_append.1 n2).2.2 b h1 b h2 rfl
 let S':Nat→Prop:=if lent.isEmpty then E1.S else E.S
 let E':Env:=E.back E1 (swp cr.ns) (swp (cr.ps++cr.ns)) S'
 have hS1:lent= []→S'=E1.S:=fun e=>by grind
 have hS2:lent≠[]→S'=E.S:=fun e=>by
  grind
 have inOwn:∀g,Own (aR (List.replicate cr.m none) ins) (E.to cr.al (E.cX lent).S) g→∃i b k,(i,b)∈cr.ps∧hb b=some k∧E.has b g:=by
  rintro g ⟨i,k,hik,hg⟩
  rcases ei hik with q1|⟨_,q2⟩
  ·obtain⟨b,k0,z1,z2,z3⟩:=oG jW q1
   refine⟨i,b,k0,z1,z2,?_⟩
   have:=eJ n1 (CR.sub z1)
   simpa[Env.has,Env.to,this] using hg
  grind
 have inOwn':∀g,Own (aR (List.replicate cr.m none) ins) (E.to cr.al (E.cX lent).S) g→Own σ.hp E g:=fun g hg=>by
  obtain⟨i,b,k,_,z2,z3⟩:=inOwn g hg
  exact⟨b,k,hB b k z2,z3⟩
 have heapS:∀g,E.S g→w1.heap[g]? =w.heap[g]? :=fun g hg=>hX.kept g (h.hw.slt g hg) (fun ho=>by
  obtain⟨i,b,k,_,z2,z3⟩:=inOwn g ho
  exact h.hw.du b k g (hB b k z2) z3 hg)
 have SS':∀g,E.S g→S' g:=fun g hg=>by
  by_cases hl:lent= []
  ·rw[hS1 hl];exact hX.sle g (Or.inl hg)
  grind
 have S'1:∀g,S' g→E1.S g:=fun g hg=>by
  by_cases hl:lent= []
  ·grind
  ·rw[hS2 hl] at hg;exact hX.sle g (Or.inl hg)
 have kp:bL E w E' w1:=⟨heapS,SS'⟩
 have gns:∀i b,(i,b)∈cr.ns→E'.g b=E1.g i∧E'.sv b=E1.sv i∧E'.bt b=E1.bt i:=fun i b hm=>by
  have:=eJ (l:=swp cr.ns) (by grind [swp]) (j0.2 hm)
  simp[E',Env.back,this]
 have gold:∀b,b∉cr.ns.map (·.2)→E'.g b=E.g b∧E'.sv b=E.sv b∧E'.bt b=E.bt b:=fun b hm=>by
  grind [swp,uf,Env.back]
 have gps:∀i b,(i,b)∈cr.al→E'.g b=E1.g i∧E'.sv b=E1.sv i∧E'.bt b=E1.bt i:=fun i b hm=>by
  have hi:i<16:=pv o3 i (List.mem_map.2 ⟨(i,b),hm,rfl⟩)
  obtain⟨p1,p2,p3⟩:=hX.FJ i hi
  obtain⟨q1,q2,q3⟩:=gold b (disj b (List.mem_map.2 ⟨(i,b),hm,rfl⟩))
  have:=eJ n1 hm
  grind [Env.to]
 have gall0:∀i b,(i,b)∈cr.al++cr.ns→E'.g b=E1.g i∧E'.sv b=E1.sv i∧E'.bt b=E1.bt i:=fun i b hm=>(List.mem_append.1 hm).elim (gps i b) (gns i b)
 have gall:∀i b,(i,b)∈cr.ps++cr.ns→E'.g b=E1.g i∧E'.sv b=E1.sv i∧E'.bt b=E1.bt i:=fun i b hm=>gall0 i b ((List.mem_append.1 hm).elim (fun h=>List.mem_append.2 (Or.inl (CR.sub h))) (fun h=>List.mem_append.2 (Or.inr h)))
 have hasAll:∀i b,(i,b)∈cr.ps++cr.ns→∀g,E'.has b g↔E1.has i g:=fun i b hm g=>by
  have:=eJ nall (j0.2 hm)
  unfold Env.has
  rw[(gall i b hm).1]
  simp[E',Env.back,this]
 have hasOld:∀b,b∉cr.ns.map (·.2)→b∉cr.ps.map (·.2)→∀g,E'.has b g↔E.has b g:=fun b h1 h2 g=>by
  have:k8 (swp (cr.ps++cr.ns)) b=none:=uf (by
   simp only[swp,List.map_map,Function.comp_def,r9,i7,not_or]
   grind)
  unfold Env.has
  rw[(gold b h1).1]
  simp[E',Env.back,this]
 have rn:Rn (cr.al++cr.ns) {E1 with S:=S'} E':=⟨fun i b hl=>gall0 i b (pt hl),fun g hg=>hg⟩
 have wT:∀i k,(i,k)∈cr.out→RB {E1 with S:=S'} w1 i k:=fun i k hm=>by
  have hlt:i<(List.replicate cr.m (none:Option aN)).length:=by rw[l0];exact pv o5 i (List.mem_map.2 ⟨(i,k),hm,rfl⟩)
  have hb1:=hW.cM i k (yf (m:=cr.m) n4 hm hlt)
  by_cases hl:lent= []
  ·rw[hS1 hl];exact hb1
  ·have hf:pw cr.out=true:=by
    grind
   exact RB.flat (ue hf i k hm) hb1
 have outMem:∀c k,(c,some k)∈me (cr.al++cr.ns) cr.out (cr.ps++cr.ns)→∃i k0,(i,c)∈cr.ps++cr.ns∧(i,k0)∈cr.out∧k0.eW (cr.al++cr.ns)=some k:=fun c k hm=>by
  obtain⟨i,z1,z2⟩:=Az hm
  unfold HT at z2
  split at z2
  ·rename_i k0 hk0;exact⟨i,k0,z1,Eu hk0,z2⟩
  grind
 have outAt1:∀i k,(i,k)∈cr.out→(dm cr.m cr.out)[i]? =some (some k):=fun i k hm=>
  yf (m:=cr.m) n4 hm (by rw[l0];exact pv o5 i (List.mem_map.2 ⟨(i,k),hm,rfl⟩))
 have oldNot:∀c,c∉wrote (me (cr.al++cr.ns) cr.out (cr.ps++cr.ns))→c∉cr.ns.map (·.2)∧c∉cr.ps.map (·.2):=fun c hc=>by
  grind [ud]
 have notIn:∀c k g,σ.hp[c]? =some (some k)→c∉cr.ps.map (·.2)→E.has c g→¬Own (aR (List.replicate cr.m none) ins) (E.to cr.al (E.cX lent).S) g:=fun c k g hc hn hg ho=>by
  obtain⟨i,b,k',z1,z2,z3⟩:=inOwn g ho
  have e:=h.hw.dW c b k k' g hc (hB b k' z2) hg z3
  grind
 have on':∀ids:List Nat,(∀b∈ids,b∈σ.ids)→E.on E' ids:=fun ids hids b hb'=>gold b (fun hm=>(hfr b hm).1 (hids b hb'))
 have hwn:HW gl E' w1 (aR σ.hp (me (cr.al++cr.ns) cr.out (cr.ps++cr.ns))):=by
  refine⟨?_,?_,?_,?_,h.hw.gj kp,?_⟩
  ·intro c k hc
   rcases ei hc with h1|⟨h1,h2⟩
   ·obtain⟨i,k0,z1,z2,z3⟩:=outMem c k h1
    exact RB.eW rn (gall i c z1) (fun _ g hp=>by have:=eJ nall (j0.2 z1);simpa[E',Env.back,this] using hp) z3 (wT i k0 z2)
   ·obtain⟨q1,q2⟩:=oldNot c h1
    refine RB.mono kp ?_ ?_ (fun _ g hp=>by
     have:k8 (swp (cr.ps++cr.ns)) c=none:=uf (by
      simp only[swp,List.map_map,Function.comp_def,r9,i7,not_or]
      grind)
     simpa[E',Env.back,this] using hp) (h.hw.cM c k h2)
    ·intro b hb'
     rcases List.mem_cons.1 hb' with e|hb'
     ·grind
     ·exact gold b (fun hm=>(hfr b hm).1 (St.zw h2 b hb'))
    ·intro g hg
     exact hX.kept g (Own.below h.hw ⟨c,k,h2,hg⟩) (notIn c k g h2 q2 hg)
  ·intro c c' k k' g hc hc' g1 g2
   rcases ei hc with h1|⟨h1,h2⟩<;>rcases ei hc' with h1'|⟨h1',h2'⟩
   ·obtain⟨i,k0,z1,z2,z3⟩:=outMem c k h1
    obtain⟨i',k0',z1',z2',z3'⟩:=outMem c' k' h1'
    have e:=hW.dW i i' k0 k0' g (outAt1 i k0 z2) (outAt1 i' k0' z2') ((hasAll i c z1 g).1 g1) ((hasAll i' c' z1' g).1 g2)
    subst e
    have o7':((cr.ps++cr.ns).map (·.1)).Nodup:=List.Nodup.sublist (List.Sublist.map _ (List.Sublist.append cr.S0 (List.Sublist.refl _))) (fV o7)
    have q1:=eJ o7' z1
    have q2:=eJ o7' z1'
    grind
   ·obtain⟨i,k0,z1,z2,z3⟩:=outMem c k h1
    obtain⟨q1,q2⟩:=oldNot c' h1'
    have g1:=(hasAll i c z1 g).1 g1
    have g2:=(hasOld c' q1 q2 g).1 g2
    rcases hX.own g ⟨i,k0,outAt1 i k0 z2,g1⟩ with y|y
    ·grind
    ·have:=Own.below h.hw ⟨c',k',h2',g2⟩;omega
   ·obtain⟨i,k0,z1,z2,z3⟩:=outMem c' k' h1'
    obtain⟨q1,q2⟩:=oldNot c h1
    have g2:=(hasAll i c' z1 g).1 g2
    have g1:=(hasOld c q1 q2 g).1 g1
    rcases hX.own g ⟨i,k0,outAt1 i k0 z2,g2⟩ with y|y
    ·grind
    ·have:=Own.below h.hw ⟨c,k,h2,g1⟩;omega
   ·exact h.hw.dW c c' k k' g h2 h2' ((hasOld c (oldNot c h1).1 (oldNot c h1).2 g).1 g1) ((hasOld c' (oldNot c' h1').1 (oldNot c' h1').2 g).1 g2)
  ·intro c k g hc g1 hs
   rcases ei hc with h1|⟨h1,h2⟩
   ·obtain⟨i,k0,z1,z2,z3⟩:=outMem c k h1
    exact hW.du i k0 g (outAt1 i k0 z2) ((hasAll i c z1 g).1 g1) (S'1 g hs)
   ·obtain⟨q1,q2⟩:=oldNot c h1
    have g1:=(hasOld c q1 q2 g).1 g1
    by_cases hl:lent= []
    ·have hs':E1.S g:=S'1 g hs
     rcases hX.l9 g hs' with y|y|y
     ·rcases y with y|⟨b,hb',_⟩
      ·exact h.hw.du c k g h2 g1 y
      grind
     ·grind
     ·have:=Own.below h.hw ⟨c,k,h2,g1⟩;omega
    ·have hs':E.S g:=by have:=hs;change S' g at this;grind
     exact h.hw.du c k g h2 g1 hs'
  ·intro g hg;exact hW.slt g (S'1 g hg)
  ·intro c k g hc g1
   rcases ei hc with h1|⟨h1,h2⟩
   ·obtain⟨i,k0,z1,z2,z3⟩:=outMem c k h1
    exact hW.below (outAt1 i k0 z2) ((hasAll i c z1 g).1 (Or.inr g1))
   ·obtain⟨q1,q2⟩:=oldNot c h1
    exact vp (h.hw.below h2 ((hasOld c q1 q2 g).1 (Or.inr g1))) hX.size
 refine⟨E',h.carry kp (on' _ (fun b hb'=>hb')) hwn,?_,hX.os,hX.tape,hX.output,hX.size,?_,SS',?_,?_,?_⟩
 ·have hR':RV {E1 with S:=S'} w1 cr.r v:=by
   by_cases hl:lent= []
   ·rw[hS1 hl];exact hR
   ·have hf:cr.r.fM=true:=by
     grind
    exact RV.flat hf hR
  exact RV.eW rn hr' hR'
 ·intro g hg hn
  exact hX.kept g hg (fun ho=>hn (inOwn' g ho))
 ·intro g hg
  by_cases hl:lent= []
  ·rcases hX.l9 g (S'1 g hg) with y|y|y
   ·rcases y with y|⟨b,hb',_⟩<;>grind
   ·grind
   grind
  ·have hs':E.S g:=by have:=hg;change S' g at this;grind
   grind
 ·rintro g ⟨c,k,hc,hg⟩
  rcases ei hc with h1|⟨h1,h2⟩
  ·obtain⟨i,k0,z1,z2,z3⟩:=outMem c k h1
   have hg:=(hasAll i c z1 g).1 hg
   exact(hX.own g ⟨i,k0,outAt1 i k0 z2,hg⟩).imp (inOwn' g) id
  ·have hg:=(hasOld c (oldNot c h1).1 (oldNot c h1).2 g).1 hg
   exact Or.inl ⟨c,k,h2,hg⟩
 ·intro b hb'
  exact gold b (fun hm=>by have:=(hfr b hm).2.2;omega)
end
theorem HX{P:Program}{G:bR}(T:bD P G){gl:Ctx}{E:Env}{w:World}{hp:List (Option aN)}(hw:HW gl E w hp){hb:Nat→Option aN}(hB:HB hb hp){name:String}{a x:AV}{xt:Ty}{f:FuncId}{v:Value}(h:Ew G hb name a=some (f,x,xt))(hr:RV E w a v):
 ∃r,RV E w x r∧∀args,(callMethod v name args).run P w=(callFunc f (#[r]++args)).run P w:=by
 unfold Ew at h
 split at h
 ·rename_i t u
  split at h
  ·rename_i td htd
   split at h
   ·rename_i m hm
    obtain⟨hm1,hm2⟩:=HV hm
    obtain⟨ii,r,f',pr,hi,hr1,hr2,hr3,hr4⟩:=T.ab7 htd hm1
    subst hr3
    rw[hm2] at hr1
    obtain⟨y,e,hy⟩:=RV.atom rfl hr
    simp at e
    subst e
    have hy0:cK E w u y:=by
     trivial
    have hsz:∃n,P.types.size+Made.depth=n+1:=by
     simp_all[Made.depth]
    obtain⟨n,hn⟩:=hsz
    split at h
    ·rename_i hst
     rw[hst] at hr4
     split at h
     ·cases h
      refine⟨y,RV.ef hy0,fun args=>?_⟩
      have hpath:r.path= #[]:=by
       grind [vz]
      obtain⟨i',d,_,hd,_⟩:=T.info htd
      rw[hpath] at hr4
      simp only[vz,hd] at hr4
      have hrec:(receiverAt t (.val y) pr (if r.path.isEmpty then some ((name.splitOn ".").getLastD name) else none)).run P w= .ok y w:=by
       unfold receiverAt
       cases d<;>cases pr<;>simp[zx] at hr4<;>simp[underlying,hd,Place.get]
      simp_all[callMethod,method,typeInfo,follow]
     grind
    ·rename_i s i ft hst
     rw[hst] at hr4
     split at h
     ·rename_i a tf ha htf
      split at h
      ·rename_i x' hx
       split at h
       ·cases h
        obtain⟨va,q1,q2⟩:=mY T hw hB (RV.ef hy0) ha
        obtain⟨vx,q3,q4⟩:=ru T hw hB q2 hx
        refine⟨vx,q4,fun args=>?_⟩
        obtain⟨st,hpath⟩:∃st,r.path= #[st]:=by
         cases hp:r.path.toList with
         |nil=>rw[hp] at hr4;trivial
         |
          cons st l=>
          cases l with
          |nil=>grind
          |cons _ _=>rw[hp] at hr4;trivial
        rw[hpath] at hr4
        simp only[vz,aW,iE] at hr4
        obtain⟨⟨⟨⟨⟨p1,p2⟩,p3⟩,p4⟩,p5⟩,p6⟩:=hr4
        have p3:=bP p3
        have p4:=bP p4
        subst p1
        split at p5
        ·rename_i fs d hs hd
         simp only[aW,iE] at p5
         obtain⟨p5,p7⟩:=p5
         split at p7
         ·rename_i fl hfl
          have p7:=bP p7
          have hfa:∃ad b,y= .pointer (some ad)∧va= .pointer (some b)∧(fieldPlace ad fl).run P w= .ok b w:=by
           have hyp:∃ad,y= .pointer (some ad):=by
            unfold gS at ha
            split at ha
            ·obtain⟨g,_,e,_⟩:=RV.atom rfl (RV.ef hy0);grind
            ·obtain⟨b',o',cs,e,_⟩:=RV.atom rfl (RV.ef hy0);grind
            grind
           obtain⟨ad,rfl⟩:=hyp
           have hvp:∃b,va= .pointer (some b):=by
            have ht:(∃b' p',a= .ptr b' p')∨∃u' x',a= .cI u' x':=by
             unfold gS at ha
             grind
            rcases ht with⟨b',p',rfl⟩|⟨u',x',rfl⟩
            ·obtain⟨g,_,e,_⟩:=RV.atom rfl q2;grind
            ·obtain⟨b'',o',cs,e,_⟩:=RV.atom rfl q2;grind
           obtain⟨b,rfl⟩:=hvp
           refine⟨ad,b,rfl,rfl,?_⟩
           simp only[Instr.fieldAt,underlying,Sem.run_bind,run_program,Result.andThen_ok,hs,Sem.run_pure,hfl,Instr.sureAddr] at q1
           cases hfp:(fieldPlace ad fl).run P w<;>simp_all
          obtain⟨ad,b,rfl,rfl,hfp⟩:=hfa
          have hld:(loadVar ft b).run P w= .ok vx w:=by trivial
          have hrec:∀wr,(receiverAt ft (.var b) false wr).run P w= .ok vx w:=by
           intro wr
           unfold receiverAt
           cases d<;>simp[zx] at p5<;>simp[underlying,hd,Place.get,hld]
          have hfol:(follow [st] t (.val (.pointer (some ad)))).run P w= .ok (ft,.var b) w:=by
           simp only[follow,underlying,Sem.run_bind,run_program,Result.andThen_ok,p3,hs,Sem.run_pure,p4,hfl,p2,bZ,Place.get,asAddr,hfp,p7]
          simp_all[callMethod,method,typeInfo]
         grind
        grind
       grind
      grind
     grind
   grind
  grind
 grind
theorem ug{P:Program}{G:bR}(T:bD P G){gl:Ctx}{σ:St}{E:Env}{a:Act}{w:World}(h:bX gl σ E a w){o:Oper}{c:Call}(hop:o.op= .call c){ev:Operand→AV}{hb:Nat→Option aN}(hB:HB hb σ.hp){cr:CR}{r:fH}
 (hev:∀x∈o.op.operands.toList,RV E w (ev x) (a.eval x)) {ob:List Prop} (he:oH P G gl cr ev hb c=some (r,ob)) (hvc:∀p∈ob,p) (hfr:∀b∈r.fr,σ.fresh b) {K:Act→World→Prop} {Q:Exit→Act→World→Prop}
 (hK:cr.j4=false→∀E' v w',bX gl {σ with hp:=aR σ.hp r.hw} E' a w'→RV E' w' r.v v→Ext gl.md (Own σ.hp E) E w (Own (aR σ.hp r.hw) E') E' w'→K (a.put o.dst v) w')
 (hQ:cr.j4=true→∀E' v w',bX gl {σ with hp:=aR σ.hp r.hw} E' a w'→RV E' w' r.v v→Ext gl.md (Own σ.hp E) E w (Own (aR σ.hp r.hw) E') E' w'→Q (.panic [{v:=v,recovered:=false}]) a w'):o.wpIn (Wd gl) 0 P a w K Q:=by
 unfold oH at he
 split at he
 ·rename_i cf hcf
  split at he
  ·rename_i fn fl cl hfv
   split at he
   ·rename_i L lent ins r' hL jW hr'
    split at he
    ·rename_i hcond
     cases he
     simp only[aW] at hcond
     obtain⟨hlen,gL⟩:=hcond
     have hfc:=hvc _ (dK ..)
     have hopd:o.op.operands= #[cf]++c.args:=by grind [Op.operands,Call.operands]
     have hcfv:=hev cf (by grind)
     obtain⟨f',c',e,r1,r2,hfn0⟩:=KZ hfv hcfv
     have hargs:kF E w (c.args.toList.map ev) (c.args.toList.map a.eval):=kF.map _ (fun x hx=>hev x (by grind))
     have hall:=kF.append (kF.append r1 hargs) r2
     have hmap:(fl.map (fun x=>(x,Ty.unit))++(c.args.toList.zip c.argTypes.toList).map (rM G ev)++cl.map (fun x=>(x,Ty.unit))).map (·.1)=fl++c.args.toList.map ev++cl:=by
      simp only[r9,List.map_map]
      have e1:∀l:List AV,l.map ((fun x:AV×Ty=>x.1)∘fun x=>(x,Ty.unit))=l:=by intro l;induction l<;>simp_all
      have e2:∀(l:List Operand)(m:List TypeId),l.length=m.length→(l.zip m).map ((fun x:AV×Ty=>x.1)∘rM G ev)=l.map ev:=by
       intro l
       induction l with
       |nil=>intro m _;rfl
       |
        cons x l ih=>
        intro m hm
        cases m with
        |nil=>grind
        |
         cons y m=>
         simp only[List.zip_cons_cons,dX]
         rw[ih m (by grind)];rfl
      grind [bP]
     have hlent:=lk hL
     obtain⟨hφ,hw1⟩:=sV h hB hlent jW gL
     have hv:=mw h.hw hB hφ hL (fun g hg=>hg) (by rw[hmap];omega)
     unfold Oper.wpIn
     refine⟨fun _ _=>trivial,?_⟩
     rw[Oper.semAt_eq _ _ _ (by grind)]
     have post:∀(ed:Ending)(w':World),(∃E',wI E' w' cr.fin ed∧HW gl E' w' (dm cr.m cr.out)∧Ext gl.md (Own (aR (List.replicate cr.m none) ins) (E.to cr.al (E.cX lent).S)) (E.to cr.al (E.cX lent).S) w (Own (dm cr.m cr.out) E') E' w')→
      (match ed,w' with
       | .returned v,w''=>K (a.put o.dst v) w''
       | .panicked chain,w''=>Q (.panic chain) a w''
       | .outgrown,_=>LetsOut Q):=by
      rintro ed w' ⟨E',hR,hW',hX⟩
      cases ed with
      |
       returned v=>
       cases ahY:cr.j4 with
       |true=>simp only[CR.fin,ahY,bZ] at hR;trivial
       |
        false=>
        simp only[CR.fin,ahY,dL,cW] at hR
        obtain⟨E2,g1,g2,g3⟩:=kG h hB hlent jW gL hfr hW' hX hr' hR
        grind
      |
       panicked ch=>
       cases ahY:cr.j4 with
       |
        true=>
        simp only[CR.fin,ahY,bZ] at hR
        obtain⟨u,e,hR⟩:=hR
        obtain⟨E2,g1,g2,g3⟩:=kG h hB hlent jW gL hfr hW' hX hr' (RV.ef hR)
        grind
       |false=>simp only[CR.fin,ahY,dL,cW] at hR;trivial
      |outgrown=>cases ahY:cr.j4<;>simp only[CR.fin,ahY,bZ,dL,cW] at hR<;>exact hR.elim
     cases fn with
     |
      func f=>
      obtain⟨ahS,hfn⟩:=hfc
      have ahL:(execOp a.eval o).run P w= .ok (.enter f (f'.toList++c.args.toList.map a.eval++c'.toList).toArray) w:=by
       have:=ahS (f'++c.args.map a.eval++c') w
       simp only[execOp,hop,resolve,hcf,e,Sem.run_bind,Deferred.ofValue,Sem.run_pure,Result.andThen_ok,invoke]
       rw[this]
       congr 2
       grind
      rw[ahL]
      simp only[Oper.uponIn]
      refine⟨fun h=>(by cases h),?_⟩
      have h1:CallsIn Fence.wide 0 P f _ w _:=callsIn_wide.2 (hfn _ w _ hv hw1)
      exact CallsIn.mono (F:=Wd gl) h1 post
     |
      yield l=>
      rcases hfn0 with⟨g,hg⟩|⟨_,e1,e2⟩
      ·cases hg
      subst e1;subst e2
      have hn:∀{vs:List Value},kF E w [] vs→vs= []:=by intro vs h;cases vs with
       |nil=>rfl
       |cons _ _=>trivial
      have hf':f'= #[]:=by grind
      have hc':c'= #[]:=by grind
      subst hf';subst hc'
      obtain⟨fn,tmps,assign,body,hy,hr⟩:=hfc _ w _ hv hw1
      have ahL:(execOp a.eval o).run P w= .ok (.round l fn tmps assign body) w:=by
       simp only[execOp,hop,resolve,hcf,e,Sem.run_bind,Deferred.ofValue,Sem.run_pure,Result.andThen_ok,invoke]
       rw[←hy]
       congr 2
       apply l6
       simp
      rw[ahL]
      simp only[Oper.uponIn]
      refine⟨fun h=>(by cases h),?_⟩
      exact RoundIn.mono (F:=Wd gl) hr post
     |_=>grind
    grind
   grind
  grind
 ·rename_i rv name hcf
  split at he
  ·rename_i f x xt hfv
   split at he
   ·rename_i L lent ins r' hL jW hr'
    split at he
    ·rename_i hcond
     cases he
     simp only[aW] at hcond
     obtain⟨hlen,gL⟩:=hcond
     have hfc:=hvc _ (dK ..)
     have hopd:o.op.operands= #[rv]++c.args:=by grind [Op.operands,Call.operands]
     obtain⟨rc,hrc,hcm⟩:=HX T h.hw hB hfv (hev rv (by grind))
     have hargs:kF E w (c.args.toList.map ev) (c.args.toList.map a.eval):=kF.map _ (fun x hx=>hev x (by grind))
     have hall:kF E w (x::c.args.toList.map ev) (rc::c.args.toList.map a.eval):=⟨hrc,hargs⟩
     have hmap:((x,xt)::(c.args.toList.zip c.argTypes.toList).map (rM G ev)).map (·.1)=x::c.args.toList.map ev:=by
      simp only[dX,List.map_map]
      have e2:∀(l:List Operand)(m:List TypeId),l.length=m.length→(l.zip m).map ((fun x:AV×Ty=>x.1)∘rM G ev)=l.map ev:=by
       intro l
       induction l with
       |nil=>intro m _;rfl
       |
        cons x l ih=>
        intro m hm
        cases m with
        |nil=>grind
        |
         cons y m=>
         simp only[List.zip_cons_cons,dX]
         rw[ih m (by grind)];rfl
      rw[e2 _ _ (bP hlen)]
     have hlent:=lk hL
     obtain⟨hφ,hw1⟩:=sV h hB hlent jW gL
     have hv:=mw h.hw hB hφ hL (fun g hg=>hg) (by rw[hmap];omega)
     unfold Oper.wpIn
     refine⟨fun _ _=>trivial,?_⟩
     rw[Oper.semAt_eq _ _ _ (by grind)]
     have post:∀(ed:Ending)(w':World),(∃E',wI E' w' cr.fin ed∧HW gl E' w' (dm cr.m cr.out)∧Ext gl.md (Own (aR (List.replicate cr.m none) ins) (E.to cr.al (E.cX lent).S)) (E.to cr.al (E.cX lent).S) w (Own (dm cr.m cr.out) E') E' w')→
      (match ed,w' with
       | .returned v,w''=>K (a.put o.dst v) w''
       | .panicked chain,w''=>Q (.panic chain) a w''
       | .outgrown,_=>LetsOut Q):=by
      rintro ed w' ⟨E',hR,hW',hX⟩
      cases ed with
      |
       returned v=>
       cases ahY:cr.j4 with
       |true=>simp only[CR.fin,ahY,bZ] at hR;trivial
       |
        false=>
        simp only[CR.fin,ahY,dL,cW] at hR
        obtain⟨E2,g1,g2,g3⟩:=kG h hB hlent jW gL hfr hW' hX hr' hR
        grind
      |
       panicked ch=>
       cases ahY:cr.j4 with
       |
        true=>
        simp only[CR.fin,ahY,bZ] at hR
        obtain⟨u,e,hR⟩:=hR
        obtain⟨E2,g1,g2,g3⟩:=kG h hB hlent jW gL hfr hW' hX hr' (RV.ef hR)
        grind
       |false=>simp only[CR.fin,ahY,dL,cW] at hR;trivial
      |outgrown=>cases ahY:cr.j4<;>simp only[CR.fin,ahY,bZ,dL,cW] at hR<;>exact hR.elim
     obtain⟨ahS,hfn⟩:=hfc
     have ahL:(execOp a.eval o).run P w= .ok (.enter f (rc::c.args.toList.map a.eval).toArray) w:=by
      have hq:=hcm (c.args.map a.eval)
      rw[ahS] at hq
      simp only[execOp,hop,resolve,hcf,Sem.run_bind,Sem.run_pure,Result.andThen_ok,invoke]
      have e0:(#[a.eval rv]++c.args.map a.eval)[0]? =some (a.eval rv):=by grind
      have e1:(#[a.eval rv]++c.args.map a.eval).extract 1 (#[a.eval rv]++c.args.map a.eval).size=c.args.map a.eval:=by
       apply l6;simp
       grind
      rw[e0]
      show(callMethod (a.eval rv) name ((#[a.eval rv]++c.args.map a.eval).extract 1 (#[a.eval rv]++c.args.map a.eval).size)).run P w=_
      rw[e1,hq]
      congr 2
      apply l6
      simp
     rw[ahL]
     simp only[Oper.uponIn]
     refine⟨fun h=>(by cases h),?_⟩
     have h1:CallsIn Fence.wide 0 P f _ w _:=callsIn_wide.2 (hfn _ w _ hv hw1)
     exact CallsIn.mono (F:=Wd gl) h1 post
    grind
   grind
  grind
 grind
theorem GH{P:Program}{G:bR}(T:bD P G){gl:Ctx}{σ:St}{E:Env}{a:Act}{w:World}(h:bX gl σ E a w){o:Oper}{c:Call}(hop:o.op= .call c){ev:Operand→AV}{hb:Nat→Option aN}(hB:HB hb σ.hp){cr:CR}(ahY:cr.j4=false){r:fH}
 (hev:∀x∈o.op.operands.toList,RV E w (ev x) (a.eval x)) {ob:List Prop} (he:oH P G gl cr ev hb c=some (r,ob)) (hvc:∀p∈ob,p) (hfr:∀b∈r.fr,σ.fresh b):vb P gl σ E a w o r:=fun _K _Q hK=>
 ug T h hop hB hev he hvc hfr (fun _=>hK) (fun e=>by grind)
end Go.Ax
