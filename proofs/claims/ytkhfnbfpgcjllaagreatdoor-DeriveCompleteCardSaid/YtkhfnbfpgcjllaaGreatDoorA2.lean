/- The machines: what it means to be walked or run, part 2. No condition. -/
import Derived.Test.YtkhfnbfpgcjllaaGreatDoorA1
import Derived.Laws.MakeOwn
import Derived.Laws.IdiomStrings
import Derived.Laws.Slices
import Derived.Laws.StructEq
import Derived.ChangeKeysEq
import Derived.RangeFuncRecord
namespace Go.Ax
theorem mP{hb:Nat→Option aX}{b bs:Nat}{t:Ty}{xs:List t.den}(h:jw hb b=some ⟨bs,t,xs⟩):∃e,hb b=some (.row e bs t xs):=by
 grind [jw]
theorem pM{gl:Ctx}{E:Env}{w:World}{hp:List (Option aX)}(hw:HW gl E w hp){hb:Nat→Option aX}(hB:HB hb hp):∀{x:AV}{m:Bool}{t:Ty}{y:AV}{l:List Nat}{vs:List Value},view hb x m t=some (y,l)→RC E w x vs→RC (E.eQ l) w y vs:=by
 intro x
 induction x with
 |val t x=>intro m u y l vs h hr;simp only[view,fG,jb] at h;obtain⟨rfl,rfl⟩:=h;exact RC.mono (Env.gA []) (fun b hb=>by cases hb) (a:=.val t x) hr
 |
  aM=>
  intro m u y l vs h hr
  cases u with
  |
   slice bs t=>
   cases m<;>(simp only[view,fG,jb] at h;obtain⟨rfl,rfl⟩:=h;exact⟨none,0,by trivial,cV _,by simp,by simp,Or.inl rfl⟩)
  |_=>trivial
 |
  own b=>
  intro m u y l vs h hr
  have h':(match jw hb b with|some ⟨bs,t,xs⟩=>some (AV.val (.slice bs t) xs,[b])|none=>none)=some (y,l):=by trivial
  split at h'
  ·rename_i bs t xs hv
   cases h'
   obtain⟨e,hk⟩:=mP hv
   obtain⟨h1,h2,h3,h4,a,cap,h5,h6,h7⟩:=hw.eJ b _ (hB b _ hk)
   obtain⟨hr,_⟩:=hr
   rw[h5] at hr
   rcases h7 with⟨h7,h8,h9⟩|⟨g,c,h7,h8,h9,h10,h11,h12⟩
   ·subst h9;obtain⟨rfl,rfl⟩:=h7
    exact⟨none,0,hr,by simp,h2,h3,Or.inl rfl⟩
   ·refine⟨a,cap,hr,h11,h2,h3,Or.inr ⟨g,0,_,h8,Or.inr ⟨b,by simp,h7⟩,?_,bO.mono (fun _ _ h=>Rel.mono (Env.gA [b]).w (Env.gA [b] (w:=w)).S h) h12⟩⟩
    have:=tX.of_heap h9 0 (xs.length*t.size)
    grind
  grind
 |
  nQ b lo len=>
  intro m u y l vs h hr
  have h':(match jw hb b with|some ⟨bs,t,xs⟩=>some (AV.val (.slice bs t) ((xs.drop lo).take len),[b])|none=>none)=some (y,l):=by trivial
  split at h'
  ·rename_i bs t xs hv
   cases h'
   obtain⟨e,hk⟩:=mP hv
   obtain⟨h1,h2,h3,h4,a,cap,h5,h6,h7⟩:=hw.eJ b _ (hB b _ hk)
   obtain⟨a',c',n,tt,r1,r2,r3,r4,a2,r5,r6⟩:=hr
   rw[h1] at r1;cases r1
   rw[h5] at r2;cases r2
   have hlen:((xs.drop lo).take len).length=len:=by grind
   have hb1:len*bs≤aF:=cW (ju _ (by omega)) h2
   refine⟨_,_,by rw[hlen];exact r5,by grind,by grind,by grind,?_⟩
   rcases tD len with hz|hz
   ·grind
   ·rcases h7 with⟨h7,h8,h9⟩|⟨g,c,h7,h8,h9,h10,h11,h12⟩
    ·grind
    ·subst h8
     have hr0:=tX.of_heap h9 0 (xs.length*t.size)
     simp only[fN] at hr0
     obtain⟨cs',q1,q2⟩:=bO.part hr0 h12 lo len
     refine Or.inr ⟨g,0+lo*t.size,cs',?_,Or.inr ⟨b,by simp,h7⟩,q1,bO.mono (fun _ _ h=>Rel.mono (Env.gA [b]).w (Env.gA [b] (w:=w)).S h) q2⟩
     grind [Addr.add]
  grind
 |
  mL b p lo len=>
  intro m u y l vs h hr
  cases u with
  |
   slice bs u=>
   have h':(match hb b with
    |
     some (.var _ v)=>match v.get p with
     |some (.val (.arr n t) xs)=>if Nat.ble (n*bs) aF&&Nat.ble n aF then some (AV.val (.slice bs t) ((List.drop lo xs).take len),[b]) else none
     |_=>none
    |_=>none)=some (y,l):=by trivial
   split at h'
   ·rename_i tt v hk
    split at h'
    ·rename_i n t xs hv
     split at h'
     ·rename_i hc
      cases h'
      simp only[bP] at hc
      have hc1:=jt hc.1
      have hc2:=jt hc.2
      obtain⟨n2,t2,r1,r2,r3,a,cap,e,r4,r5⟩:=hr
      have hkb:=hw.eJ b _ (hB b _ hk)
      obtain⟨g,s,cs,q1,q2,q3,q4,q5⟩:=uT hkb r2 (u:=.val (.arr n t) xs) hv
      rw[r1] at q2;cases q2
      have:=Ty.aE (by trivial)
      cases this
      obtain⟨q5a,q5b⟩:=q5
      have hlen:((List.drop lo xs).take len).length=len:=by grind
      have hb1:len*bs≤aF:=cW (ju _ (by omega)) hc1
      refine⟨a,cap,by grind,by grind,by grind,by grind,?_⟩
      rcases r5 with r5|⟨g',r5,r6⟩
      ·grind
      ·rw[q1] at r5;cases r5
       obtain⟨cs',z1,z2⟩:=bO.part q4 q5b lo len
       exact Or.inr ⟨g,_,cs',r6,Or.inr ⟨b,by simp,q1⟩,z1,bO.mono (fun _ _ h=>Rel.mono (Env.gA [b]).w (Env.gA [b] (w:=w)).S h) z2⟩
     grind
    grind
   grind
  |_=>trivial
 |
  ptr b p=>
  intro m u y l vs h hr
  have h':(match hb b with
   |
    some k=>match tE k p,(mG k).sub p with
    |
     some u,some s=>match u.de s with
     |some y=>some (AV.dk s y,[b])
     |none=>none
    |_,_=>none
   |none=>none)=some (y,l):=by trivial
  split at h'
  ·rename_i k hk
   split at h'
   ·rename_i u' s hu hs
    split at h'
    ·rename_i z hz
     cases h'
     obtain⟨g,r1,r2,r3⟩:=hr
     obtain⟨g',s',cs,q1,q2,q3,q4,q5⟩:=uT (hw.eJ b _ (hB b _ hk)) r3 hu
     rw[r1] at q1;cases q1
     exact⟨g,_,cs,r2,Or.inr ⟨b,by simp,r1⟩,q4,Rel.mono (Env.gA [b]).w (Env.gA [b] (w:=w)).S (RC.de hz q5)⟩
    grind
   grind
  grind
 |
  dk t x=>
  intro m u y l vs h hr
  have h':some (AV.dk t x,([]:List Nat))=some (y,l):=by trivial
  cases h'
  exact RC.mono (Env.gA []) (fun b hb=>by cases hb) hr
 |
  mp b=>
  intro m u y l vs h hr
  have h':(match hb b with
   |some (.map k v es)=>some (AV.val (.map k v) (some es),[b])
   |_=>none)=some (y,l):=by trivial
  split at h'
  ·rename_i k v es hk
   cases h'
   obtain⟨g,r1,r2⟩:=hr
   obtain⟨n1,n2,g',en,clock,q1,q2,q3,q4,q5⟩:=hw.eJ b _ (hB b _ hk)
   rw[r1] at q1;cases q1
   exact⟨some g,r2,Or.inr ⟨es,g,en,clock,rfl,rfl,Or.inr ⟨b,by simp,r1⟩,q2,nT.mono (fun _ _=>lB.mono (fun _ _=>Rel.mono (Env.gA [b]).w (Env.gA [b] (w:=w)).S)) (fun _ _=>lB.mono (fun _ _=>Rel.mono (Env.gA [b]).w (Env.gA [b] (w:=w)).S)) (RM.to q3),n1,n2,q4,q5⟩⟩
  grind
 |
  fm f t x=>
  intro m u y l vs h hr
  have h':some (AV.fm f t x,([]:List Nat))=some (y,l):=by trivial
  cases h'
  exact RC.mono (Env.gA []) (fun b hb=>by cases hb) hr
 |
  func fn fs cs ih1 ih2=>
  intro m u y l vs h hr
  have h':(match view hb fs true .unit,view hb cs true .unit with
   |some (f,l),some (c,m)=>if f.atoms&&c.atoms then some (AV.func fn f c,l++m) else none
   |_,_=>none)=some (y,l):=by trivial
  split at h'
  ·rename_i f l1 c l2 hf hc
   split at h'
   ·rename_i ha
    cases h'
    simp only[bP] at ha
    obtain⟨f',c',e,r1,r2,r3,r4⟩:=hr
    have q1:=RC.mono (Env.lO (by grind):di (E.eQ l1) w (E.eQ (l1++l2)) w) (fun _ _=>⟨rfl,rfl,rfl⟩) (ih1 hf r1)
    have q2:=RC.mono (Env.lO (by grind):di (E.eQ l2) w (E.eQ (l1++l2)) w) (fun _ _=>⟨rfl,rfl,rfl⟩) (ih2 hc r2)
    exact⟨f',c',e,q1,q2,ha.1,ha.2⟩
   grind
  grind
 |
  cons a b ih1 ih2=>
  intro m u y l vs h hr
  obtain⟨v1,v2,e,r1,r2⟩:=hr
  cases m with
  |
   true=>
   have h':(match view hb a false .unit,view hb b true .unit with
    |some (x,l),some (y,m)=>some (AV.cons x y,l++m)
    |_,_=>none)=some (y,l):=by trivial
   split at h'
   ·rename_i x l1 z l2 h1 h2
    cases h'
    have q1:=RC.mono (Env.lO (by grind):di (E.eQ l1) w (E.eQ (l1++l2)) w) (fun _ _=>⟨rfl,rfl,rfl⟩) (ih1 h1 r1)
    have q2:=RC.mono (Env.lO (by grind):di (E.eQ l2) w (E.eQ (l1++l2)) w) (fun _ _=>⟨rfl,rfl,rfl⟩) (ih2 h2 r2)
    exact⟨v1,v2,e,q1,q2⟩
   grind
  |
   false=>
   cases u with
   |
    pair s t=>
    simp only[view] at h
    split at h
    ·rename_i s' x l1 t' z l2 h1 h2
     cases h
     have q1:=RC.mono (Env.lO (by grind):di (E.eQ l1) w (E.eQ (l1++l2)) w) (fun _ _=>⟨rfl,rfl,rfl⟩) (ih1 h1 r1)
     have q2:=RC.mono (Env.lO (by grind):di (E.eQ l2) w (E.eQ (l1++l2)) w) (fun _ _=>⟨rfl,rfl,rfl⟩) (ih2 h2 r2)
     exact⟨v1,v2,e,q1,q2⟩
    grind
   |_=>trivial
 |
  nil=>
  intro m u y l vs h hr
  cases m with
  |true=>
   have h':some (AV.nil,([]:List Nat))=some (y,l):=by trivial
   cases h';exact hr
  |false=>
   have h':some (AV.val .unit (),([]:List Nat))=some (y,l):=by trivial
   cases h';exact hr
 |kv=>
  intro m u y l vs h hr;have h':some (AV.kv,([]:List Nat))=some (y,l):=by trivial
  cases h';exact hr
 |jD=>
  intro m u y l vs h hr;have h':some (AV.jD,([]:List Nat))=some (y,l):=by trivial
  cases h';exact hr
 |_=>grind [view]
theorem lP{hb:Nat→Option aX}{x y:AV}{t:Ty}{l:List Nat}(h:view hb x false t=some (y,l)):y.isAgg=x.isAgg:=by
 cases x with
 |val t x=>grind [view]
 |aM=>cases t<;>simp[view] at h;rw[←h.1];rfl
 |
  own b=>
  have h':(match jw hb b with|some ⟨bs,t,xs⟩=>some (AV.val (.slice bs t) xs,[b])|none=>none)=some (y,l):=by trivial
  split at h'<;>cases h';rfl
 |
  nQ b lo len=>
  have h':(match jw hb b with|some ⟨bs,t,xs⟩=>some (AV.val (.slice bs t) ((xs.drop lo).take len),[b])|none=>none)=some (y,l):=by trivial
  split at h'<;>cases h';rfl
 |
  mL b p lo len=>
  cases t with
  |
   slice bs t=>
   simp only[view] at h
   split at h
   ·split at h
    ·split at h
     ·cases h;rfl
     grind
    grind
   grind
  |_=>trivial
 |
  ptr b p=>
  have h':(match hb b with
   |
    some k=>match tE k p,(mG k).sub p with
    |
     some u,some s=>match u.de s with
     |some y=>some (AV.dk s y,[b])
     |none=>none
    |_,_=>none
   |none=>none)=some (y,l):=by trivial
  split at h'
  ·split at h'
   ·split at h'
    ·cases h';rfl
    grind
   grind
  grind
 |dk t' x=>
  have h':some (AV.dk t' x,([]:List Nat))=some (y,l):=by trivial
  grind
 |
  func fn fs cs=>
  have h':(match view hb fs true .unit,view hb cs true .unit with
   |some (f,l),some (c,m)=>if f.atoms&&c.atoms then some (AV.func fn f c,l++m) else none
   |_,_=>none)=some (y,l):=by trivial
  split at h'
  ·split at h'
   ·cases h';rfl
   grind
  grind
 |
  cons a b=>
  cases t with
  |
   pair s t=>
   simp only[view] at h
   split at h
   ·cases h;rfl
   grind
  |_=>trivial
 |nil=>
  have h':some (AV.val .unit (),([]:List Nat))=some (y,l):=by trivial
  cases h';rfl
 |kv=>
  have h':some (AV.kv,([]:List Nat))=some (y,l):=by trivial
  grind
 |jD=>
  have h':some (AV.jD,([]:List Nat))=some (y,l):=by trivial
  grind
 |
  mp b=>
  have h':(match hb b with
   |some (.map k v es)=>some (AV.val (.map k v) (some es),[b])
   |_=>none)=some (y,l):=by trivial
  split at h'
  ·cases h';rfl
  grind
 |fm f u x=>
  have h':some (AV.fm f u x,([]:List Nat))=some (y,l):=by trivial
  grind
 |_=>trivial
theorem Fb{gl:Ctx}{E:Env}{w:World}{hp:List (Option aX)}(hw:HW gl E w hp){hb:Nat→Option aX}(hB:HB hb hp){x y:AV}{t:Ty}{l:List Nat}{v:Value}(h:view hb x false t=some (y,l))(hr:ew E w x v):ew (E.eQ l) w y v:=by
 have ha:=lP h
 rcases hr with⟨h1,cs,e,h2⟩|⟨h1,h2⟩
 ·exact Or.inl ⟨by grind,cs,e,pM hw hB h h2⟩
 ·exact Or.inr ⟨by grind,pM hw hB h h2⟩
theorem wL{hb:Nat→Option aX}:∀{x:AV}{m:Bool}{t:Ty}{y:AV}{l:List Nat},view hb x m t=some (y,l)→∀b∈l,∃k,hb b=some k:=by
 intro x
 induction x with
 |
  own b=>
  intro m t y l h
  have h':(match jw hb b with|some ⟨bs,t,xs⟩=>some (AV.val (.slice bs t) xs,[b])|none=>none)=some (y,l):=by trivial
  grind [mP]
 |
  nQ b lo len=>
  intro m t y l h
  have h':(match jw hb b with|some ⟨bs,t,xs⟩=>some (AV.val (.slice bs t) ((xs.drop lo).take len),[b])|none=>none)=some (y,l):=by trivial
  grind [mP]
 |
  mL b p lo len=>
  intro m t y l h
  cases t with
  |
   slice bs u=>
   have h':(match hb b with
    |
     some (.var _ v)=>match v.get p with
     |some (.val (.arr n t) xs)=>if Nat.ble (n*bs) aF&&Nat.ble n aF then some (AV.val (.slice bs t) ((List.drop lo xs).take len),[b]) else none
     |_=>none
    |_=>none)=some (y,l):=by trivial
   grind
  |_=>trivial
 |
  ptr b p=>
  intro m t y l h
  have h':(match hb b with
   |
    some k=>match tE k p,(mG k).sub p with
    |
     some u,some s=>match u.de s with
     |some y=>some (AV.dk s y,[b])
     |none=>none
    |_,_=>none
   |none=>none)=some (y,l):=by trivial
  grind
 |
  func fn fs cs ih1 ih2=>
  grind [view]
 |
  cons a b ih1 ih2=>
  intro m t y l h
  cases m with
  |
   true=>
   grind [view]
  |
   false=>
   cases t with
   |
    pair s t=>
    grind [view]
   |_=>trivial
 |
  mp b=>
  intro m t y l h
  have h':(match hb b with
   |some (.map k v es)=>some (AV.val (.map k v) (some es),[b])
   |_=>none)=some (y,l):=by trivial
  grind
 |
  _=>
  intro m t y l h
  cases m<;>cases t<;>simp[view] at h<;>(try (intro b hb;rw[h.2] at hb;cases hb))
def AV.jG:AV→Bool
 | .val t _=>t.flat
 | .cons a b=>a.jG&&b.jG
 | .nil=>true
 | .ky l=>l.jG
 | .iface _ v=>v.jG
 | .kv| .ia| .jD| .kZ| .aM=>true
 |_=>false
theorem RC.flat{E E':Env}{w w':World}:∀{a:AV}{vs:List Value},a.jG=true→RC E w a vs→RC E' w' a vs:=by
 intro a
 induction a with
 |val t x=>intro vs hf h;exact Rel.flat hf h
 |
  cons a b ih1 ih2=>
  intro vs hf h
  simp only[AV.jG,bP] at hf
  obtain⟨v1,v2,e,h1,h2⟩:=h
  exact⟨v1,v2,e,ih1 hf.1 h1,ih2 hf.2 h2⟩
 |nil=>intro vs _ h;exact h
 |kv=>intro vs _ h;exact h
 |ia=>intro vs _ h;exact h
 |jD=>intro vs _ h;exact h
 |kZ=>intro vs _ h;exact h
 |aM=>intro vs _ h;exact h
 |ky l ih=>intro vs _ h;trivial
 |
  iface u v ih=>
  intro vs hf h
  obtain⟨x,e,h⟩:=h
  refine⟨x,e,?_⟩
  rcases h with⟨h1,cs,h2,h3⟩|⟨h1,h2⟩
  ·exact Or.inl ⟨h1,cs,h2,ih hf h3⟩
  ·exact Or.inr ⟨h1,ih hf h2⟩
 |_=>intro vs hf;trivial
theorem ew.flat{E E':Env}{w w':World}{a:AV}{v:Value}(hf:a.jG=true)(h:ew E w a v):ew E' w' a v:=by
 rcases h with⟨h1,cs,e,h2⟩|⟨h1,h2⟩
 ·exact Or.inl ⟨h1,cs,e,RC.flat hf h2⟩
 ·exact Or.inr ⟨h1,RC.flat hf h2⟩
theorem RT.flat{E E':Env}{w w':World}:∀{a:AV}{vs:List Value},a.jG=true→RT E w a vs→RT E' w' a vs:=by
 intro a
 induction a with
 |
  cons a b ih1 ih2=>
  intro vs hf h
  simp only[AV.jG,bP] at hf
  cases vs with
  |nil=>trivial
  |cons v vs=>exact⟨ew.flat hf.1 h.1,ih2 hf.2 h.2⟩
 |nil=>intro vs _ h;exact h
 |_=>intro vs _ h;trivial
theorem RV.flat{E E':Env}{w w':World}{a:AV}{v:Value}(hf:a.jG=true)(h:RV E w a v):RV E' w' a v:=by
 cases a with
 |bot=>trivial
 |ky l=>obtain⟨vs,e,h⟩:=h;exact⟨vs,e,RT.flat hf h⟩
 |opt c a=>trivial
 |_=>exact ew.flat hf h
def xr(G:dq)(ev:Operand→AV)(x:Operand×TypeId):AV×Ty:=(ev x.1,match x.1,G.at x.2 with| .const _,_=>.unit|_,some td=>td.ty|_,none=>.unit)
theorem ru.append{E:Env}{w:World}:∀{xs ys:List AV}{vs us:List Value},ru E w xs vs→ru E w ys us→ru E w (xs++ys) (vs++us)
 |[],_,[],_,_,h=>h
 |[],_,_::_,_,h,_=>h.elim
 |_::_,_,[],_,h,_=>h.elim
 |_::_,_,_::_,_,h,k=>⟨h.1,ru.append h.2 k⟩
theorem ru.atoms{E:Env}{w:World}:∀{l:AV}{vs:List Value},l.atoms=true→RC E w l vs→ru E w l.toList vs:=by
 intro l
 induction l with
 |
  cons a b ih1 ih2=>
  intro vs ha h
  simp only[AV.atoms,bP] at ha
  obtain⟨v1,v2,e,h1,h2⟩:=h
  subst e
  have hl:=RC.len h1
  have hs:a.size=1:=by
   cases a with
   |val t x=>cases t<;>simp[AV.atom,Ty.isAgg] at ha<;>rfl
   |_=>first|rfl|simp[AV.atom] at ha
  rw[hs] at hl
  obtain⟨v,rfl⟩:∃v,v1= [v]:=by
   match v1,hl with
   |[v],_=>grind
  refine⟨RV.gZ (Or.inr ⟨?_,h1⟩),ih2 ha.2 h2⟩
  cases a with
  |val t x=>cases t<;>simp[AV.atom,Ty.isAgg] at ha<;>rfl
  |_=>first|rfl|simp[AV.atom] at ha
 |nil=>intro vs _ h;simp only[RC] at h;subst h;trivial
 |_=>intro vs ha;trivial
theorem ru.map{E:Env}{w:World}{ev:Operand→AV}{ρ:Operand→Value}:∀(l:List Operand),(∀x∈l,RV E w (ev x) (ρ x))→ru E w (l.map ev) (l.map ρ)
 |[],_=>trivial
 |x::l,h=>⟨h x (dx ..),ru.map l (fun y hy=>h y (dH _ hy))⟩
end Go.Ax
namespace Go.Ax
theorem By(off:Nat):∀(cs:List Value)(k:Nat)(c:Array Value),off+k+cs.length≤c.size→
 ((cs.zipIdx k).foldl (fun(cs:Array Value)(x:Value×Nat)=>cs.setIfInBounds (off+x.2) x.1) c).toList=c.toList.take (off+k)++cs++c.toList.drop (off+k+cs.length)
 |[],k,c,_=>by simp
 |
  x::cs,k,c,h=>by
  simp only[da] at h
  rw[List.zipIdx_cons,List.foldl_cons,By off cs (k+1) _ (by simp;omega)]
  simp only[Array.toList_setIfInBounds,da]
  have hl:off+k<c.toList.length:=by simp;omega
  rw[show off+(k+1)=off+k+1 from by omega,List.take_set,List.drop_set_of_lt (by omega)]
  rw[show off+k+1+cs.length=off+k+(cs.length+1) from by omega]
  rw[List.take_succ_eq_append_getElem hl]
  rw[List.set_append_right _ _ (by simp;omega)]
  simp only[gE]
  rw[rG (by omega)]
  simp
theorem sS(place:Nat→Option (Nat×Nat))(cells:Array Value)(i off size:Nat)(v:Value)(rest:List (Nat×Value))(hp:place i=some (off,size))(hs:v.cells.size=size)(hb:off+size≤cells.size):
 ∃aoX:Array Value,Instr.fill place cells ((i,v)::rest)=Instr.fill place aoX rest∧aoX.toList=cells.toList.take off++v.cells.toList++cells.toList.drop (off+size):=by
 refine⟨(v.cells.toList.zipIdx 0).foldl (fun(cs:Array Value)(x:Value×Nat)=>cs.setIfInBounds (off+x.2) x.1) cells,?_,?_⟩
 rotate_left
 ·simp_all[By]
 ·simp only[Instr.fill,hp]
  rw[aB (by grind)]
  congr 1
  rw[←Array.foldl_toList]
  grind
def RP(E:Env)(w:World):List (Nat×AV)→List (Nat×Value)→Prop
 |[],[]=>True
 |x::xs,v::vs=>x.1=v.1∧RV E w x.2 v.2∧RP E w xs vs
 |_,_=>False
def JU(t:Ty):AV→List (Nat×AV)→Option AV
 |a,[]=>some a
 |
  a,(i,v)::l=>match t.sub [.d6 i] with
  |
   some s=>if v.plain&&Nat.beq v.size s.size then(match a.set [.d6 i] v with
   |some a'=>if a'.dY t then JU t a' l else none
   |none=>none) else none
  |none=>none
def Fe(t:Ty):List t.den→List (Nat×AV)→Option (List t.den)
 |xs,[]=>some xs
 |
  xs,(i,v)::l=>if v.plain then(match v.de t with
  |some y=>if Nat.blt i xs.length then Fe t (xs.set i y) l else none
  |none=>none) else none
def AV.H7:AV→Bool
 | .aM=>true
 | .cons a b=>a.H7||b.H7
 |_=>false
def AV.norm(a:AV)(t:Ty):AV:=if a.H7 then a else match a.de t with
 |some y=>.val t y
 |none=>a
def Da(G:dq)(t:TypeId)(ps:List (Nat×AV)):Option AV:=
 match G.at t with
 |
  some td=>match td.ty with
  | .arr n u=>if u.pure then(Fe u (List.replicate n u.aH) ps).map fun xs=>.val (.arr n u) xs else none
  | .pair a b=>(JU (.pair a b) (Ty.zero (.pair a b)) ps).map (AV.norm · (.pair a b))
  |
   .unit=>match ps with
   |[]=>some (.val .unit ())
   |_=>none
  |_=>none
 |none=>none
theorem Ff{E:Env}{w:World}{t:Ty}{place:Nat→Option (Nat×Nat)}(hpl:∀i s,t.sub [.d6 i]=some s→place i=some (t.off [.d6 i],s.size)∧t.valid [.d6 i]):
 ∀{ps:List (Nat×AV)}{vs:List (Nat×Value)}{a r:AV}{cells:Array Value},RP E w ps vs→RC E w a cells.toList→a.dY t=true→JU t a ps=some r→
  ∃aoX,Instr.fill place cells vs=some aoX∧RC E w r aoX.toList∧r.dY t=true
 |
  [],[],a,r,cells,_,hr,hc,h=>by
  cases h;exact⟨cells,rfl,hr,hc⟩
 |[],_::_,_,_,_,h,_,_,_=>h.elim
 |_::_,[],_,_,_,h,_,_,_=>h.elim
 |
  (i,x)::ps,(j,v)::vs,a,r,cells,⟨e,hx,hps⟩,hr,hc,h=>by
  simp only at e;subst e
  simp only[JU] at h
  split at h
  ·rename_i s hs
   split at h
   ·rename_i hcond
    simp only[bP] at hcond
    split at h
    ·rename_i a' ha'
     split at h
     ·rename_i hc'
      obtain⟨p1,p2⟩:=hpl i s hs
      have hxc:=(RV.mN hcond.1 hx).cells
      have hlen:=RC.len hxc
      have hsz:=dm hcond.2
      obtain⟨s',e1,e2,e3,e4⟩:=AV.pD hxc hr hc p2 (fun s' hs'=>by grind) ha'
      rw[hs] at e1;cases e1
      obtain⟨aoX,f1,f2⟩:=sS place cells i _ s.size v vs p1 (by grind) (by grind)
      rw[f1]
      rw[←f2] at e4
      exact Ff hpl hps e4 hc' h
     grind
    grind
   grind
  grind
theorem zz{E:Env}{w:World}{t:Ty}:
 ∀{ps:List (Nat×AV)}{vs:List (Nat×Value)}{xs ys:List t.den}{cells:Array Value},RP E w ps vs→bO (Rel w E.S t) cells.toList xs→Fe t xs ps=some ys→
  ∃aoX,Instr.fill (fun i=>some (i*t.size,t.size)) cells vs=some aoX∧bO (Rel w E.S t) aoX.toList ys∧ys.length=xs.length
 |
  [],[],xs,ys,cells,_,hr,h=>by
  cases h;exact⟨cells,rfl,hr,rfl⟩
 |[],_::_,_,_,_,h,_,_=>h.elim
 |_::_,[],_,_,_,h,_,_=>h.elim
 |
  (i,x)::ps,(j,v)::vs,xs,ys,cells,⟨e,hx,hps⟩,hr,h=>by
  simp only at e;subst e
  simp only[Fe] at h
  split at h
  ·rename_i hpl
   split at h
   ·rename_i y hy
    split at h
    ·rename_i hi
     have hi:i<xs.length:=by simp_all
     have hxc:=(RV.mN hpl hx).cells
     have apD:=RC.de hy hxc
     have bJ:=bO.set (r:=Rel w E.S t) (n:=t.size) (fun _ _ h=>Rel.len h) apD i hr hi
     have hlen:=Rel.len apD
     have hcl:=bO.len (n:=t.size) (fun _ _ h=>Rel.len h) hr
     have hb:(i+1)*t.size≤xs.length*t.size:=ju _ hi
     rw[iW,Nat.one_mul] at hb
     obtain⟨aoX,f1,f2⟩:=sS (fun i=>some (i*t.size,t.size)) cells i (i*t.size) t.size v vs rfl (by grind) (by grind)
     rw[f1]
     rw[←f2] at bJ
     obtain⟨c2,g1,g2,g3⟩:=zz hps bJ h
     exact⟨c2,g1,g2,by rw[g3,cP]⟩
    grind
   grind
  grind
theorem AV.LU{a:AV}{t:Ty}(h:a.dY t=true):(a.norm t).dY t=true:=by
 unfold AV.norm;split
 ·exact h
 split
 ·exact Ty.fh _
 grind
theorem RC.norm{E:Env}{w:World}{a:AV}{t:Ty}{cs:List Value}(h:RC E w a cs):RC E w (a.norm t) cs:=by
 unfold AV.norm;split
 ·exact h
 split
 ·rename_i y hy;exact RC.de hy h
 grind
theorem cQ.structOf{P:Program}{G:dq}(T:cQ P G){t:TypeId}{td:TD}(h:G.at t=some td){a b:Ty}(hs:td.ty= .pair a b):∃fs,P.underlying t=some (.struct fs)∧dS G fs.toList 0 td.ty=true:=by
 obtain⟨ii,d,_,h1,_,h2,_⟩:=T.info h
 have ao2:=fI h2
 cases hd:d with
 |struct fs=>subst hd;exact⟨fs,h1,h2⟩
 |
  array n e=>
  simp_all[d7]
 |
  _=>
  subst hd
  simp only[fR] at ao2
  rw[hs] at ao2;cases ao2
theorem vg{G:dq}:∀{fs:List Field}{o:Nat}{t:Ty},dS G fs o t=true→∀f∈fs,∃td,G.at f.type=some td
 |[],_,_,_,f,hf=>by cases hf
 |
  g::fs,o,t,h,f,hf=>by
  cases t with
  |
   pair a b=>
   simp only[dS,bP] at h
   obtain⟨⟨⟨h1,_⟩,_⟩,h4⟩:=h
   cases hf with
   |
    head=>
    split at h1
    ·rename_i td htd;exact⟨td,htd⟩
    ·cases h1
   |tail _ hf=>exact vg h4 f hf
  |_=>trivial
theorem tH{α β:Type}{P:Program}{w:World}(g:α→Sem β)(f:α→β):∀(l:List α),(∀x∈l,(g x).run P w= .ok (f x) w)→(l.mapM g).run P w= .ok (l.map f) w
 |[],_=>by simp
 |
  x::l,h=>by
  simp only[List.mapM_cons,Sem.run_bind,h x (dx ..),Result.andThen_ok,tH g f l (fun y hy=>h y (dH _ hy)),Sem.run_pure,fp]
theorem Ni{α β:Type}{P:Program}{w:World}(g:α→Sem β)(f:α→β)(l:Array α)(h:∀x∈l.toList,(g x).run P w= .ok (f x) w):(l.mapM g).run P w= .ok (l.map f) w:=by
 rw[Array.mapM_eq_mapM_toList,Sem.run_map,tH g f l.toList h]
 simp only[Result.andThen_ok]
 congr 1
 grind
theorem run_build{P:Program}{G:dq}(T:cQ P G){E:Env}{w:World}{t:TypeId}{ps:List (Nat×AV)}{vs:Array (Nat×Value)}(hp:RP E w ps vs.toList){r:AV}(h:Da G t ps=some r):
 ∃v,(Instr.build t vs).run P w= .ok v w∧RV E w r v:=by
 unfold Da at h
 split at h
 ·rename_i td ht
  obtain⟨z,hz,hz1,hz2⟩:=T.zero ht w
  split at h
  ·rename_i n u hty
   split at h
   ·rename_i hpure
    obtain⟨xs,hxs,rfl⟩:=Option.map_eq_some_iff.1 h
    obtain⟨te,h1,h2,h3⟩:=T.uU ht hty
    have hsz:=T.size h2 w
    rw[h3] at hsz
    rw[hty] at hz1
    have apD:=(jF (E:=E) (w:=w) hz1).2 hpure
    obtain⟨aoX,f1,f2,f3⟩:=zz hp apD.2 (xs:=List.replicate n u.aH) hxs
    refine⟨.agg aoX,?_,RV.gZ (Or.inl ⟨rfl,aoX,rfl,⟨by grind,f2⟩⟩)⟩
    simp_all[Instr.build,underlying]
   grind
  ·rename_i a b hty
   obtain⟨r',hr',rfl⟩:=Option.map_eq_some_iff.1 h
   obtain⟨fs,h1,h2⟩:=T.structOf ht hty
   rw[hty] at hz1 h2
   have hrc:=(jF (E:=E) (w:=w) hz1).1
   have hpl:∀i s,(Ty.pair a b).sub [.d6 i]=some s→((fs.map fun f=>(f.offset,((G.at f.type).map (·.ty.size)).getD 0))[i]?)=some ((Ty.pair a b).off [.d6 i],s.size)∧(Ty.pair a b).valid [.d6 i]:=by
    intro i s hs
    obtain⟨f,tf,e1,e2,e3,e4,e5,e6⟩:=pF h2 hs
    grind
   have hm:(fs.mapM fun f=>do pure (f.offset,←sizeOf f.type):Sem _).run P w= .ok (fs.map fun f=>(f.offset,((G.at f.type).map (·.ty.size)).getD 0)) w:=by
    refine Ni _ _ fs ?_
    intro f hf
    obtain⟨tf,htf⟩:=vg h2 f hf
    simp[T.size htf,htf]
   obtain⟨aoX,f1,f2,f3⟩:=Ff hpl hp hrc (Ty.wD _) hr'
   refine⟨.agg aoX,?_,RV.gZ (Or.inl ⟨?_,aoX,rfl,RC.norm f2⟩)⟩
   ·simp only[Instr.build,Sem.run_bind,hz,Result.andThen_ok,underlying,run_program,h1,Sem.run_pure,hm]
    rw[f1]
    simp
   ·rw[AV.lL (AV.LU f3)];rfl
  ·rename_i hty
   split at h
   ·cases h
    have hvs:vs= #[]:=by
     apply ni
     cases hv:vs.toList with
     |nil=>rfl
     |cons _ _=>rw[hv] at hp;trivial
    subst hvs
    obtain⟨ii,d,_,h1,_,h2,_⟩:=T.info ht
    have ao2:=fI h2
    rw[hty] at ao2 hz1
    have hrc:=(jF (E:=E) (w:=w) hz1).1
    cases hd:d with
    |
     struct fs=>
     subst hd
     simp only[d7,hty] at h2
     have hfs:fs= #[]:=by
      grind [dS]
     subst hfs
     refine⟨.agg z.cells,?_,RV.gZ (Or.inl ⟨rfl,z.cells,rfl,hrc⟩)⟩
     simp[Instr.build,hz,underlying,h1,Instr.fill]
    |
     array n e=>
     grind [d7]
    |_=>grind [fR,Ty.isAgg]
   grind
  grind
 grind
def pN(G:dq)(d:Nat)(t:TypeId)(len:Nat)(ps:List (Nat×AV)):Option (AV×aX):=
 match G.at t with
 |
  some td=>match td.ty with
  | .slice bs u=>if u.pure&&Nat.ble (len*u.size) 16777216&&Nat.ble (len*bs) aF&&Nat.ble len aF then(Fe u (List.replicate len u.aH) ps).map fun xs=>(.own d,.row td.e bs u xs) else none
  |_=>none
 |none=>none
theorem wM{w:World}{S:Nat→Prop}{u:Ty}{z:List Value}(hz:Rel w S u z u.aH)(_hu:0<u.size)(len:Nat)(zc:Array Value)(hzc:zc.toList=z):
 bO (Rel w S u) ((Array.range (len*u.size)).map (zc[· % zc.size]!)).toList (List.replicate len u.aH):=by
 have hl:=Rel.len hz
 have hs:zc.size=u.size:=by grind
 refine bO.EW u.aH u.size len _ (by simp) ?_
 intro i hi
 have:((((Array.range (len*u.size)).map (zc[· % zc.size]!)).toList.drop (i*u.size)).take u.size)=z:=by
  apply List.ext_getElem?
  intro j
  rw[List.getElem?_take]
  by_cases hj:j<u.size
  ·rw[aA hj,List.getElem?_drop]
   have hb:(i+1)*u.size≤len*u.size:=ju _ hi
   rw[iW,Nat.one_mul] at hb
   have hij:i*u.size+j<len*u.size:=by omega
   simp only[Array.getElem?_toList,Array.getElem?_map]
   rw[Array.getElem?_range,aA hij]
   grind [Nat.mul_comm,Nat.mul_add_mod,Nat.mod_eq_of_lt]
  grind
 grind
theorem xP{P:Program}{G:dq}(T:cQ P G){gl:Ctx}{σ:St}{E:Env}{a:Act}{w:World}(h:dE gl σ E a w){d:Nat}(hf:σ.fresh d){t:TypeId}{len:Nat}{ps:List (Nat×AV)}{vs:Array (Nat×Value)}(hp:RP E w ps vs.toList){r:AV}{k:aX}(hb:pN G d t len ps=some (r,k)):
 ∃v w' E',(Instr.buildSlice t len vs).run P w= .ok v w'∧dE gl (σ.eJ d (some k)) E' a w'∧RV E' w' r v∧Ext gl.md (cU σ.hp E) E w (cU (σ.eJ d (some k)).hp E') E' w':=by
 unfold pN at hb
 split at hb
 ·rename_i td ht
  split at hb
  ·rename_i bs u hty
   split at hb
   ·rename_i hc
    simp only[bP] at hc
    obtain⟨⟨⟨hpure,hc1⟩,hc2⟩,hc3⟩:=hc
    have hc1:=jt hc1
    have hc2:=jt hc2
    have hc3:=jt hc3
    obtain⟨xs,hxs,e⟩:=Option.map_eq_some_iff.1 hb
    cases e
    obtain⟨te,ie,h1,h2,h3,h4,h5,h6,h7⟩:=T.eK ht hty
    obtain⟨z,hz,hz1,hz2⟩:=T.zero h2 w
    have hsz:=T.size h2 w
    rw[h3] at hsz hz1
    have apD:=(jF (E:=E) (w:=w) hz1).2 hpure
    have hmade:=wM apD h6 len z.cells rfl
    obtain⟨aoX,f1,f2,f3⟩:=zz hp hmade hxs
    rw[gn] at f3
    have hcl:aoX.size=len*u.size:=by
     grind [bO.len,Rel.len,tp]
    have apa:(Instr.buildSlice t len vs).run P w= .ok (.slice (some ⟨w.heap.size,0,none⟩) len len) {w with heap:=w.heap.push (.cells aoX td.e)}:=by
     have hns:¬(len*u.size>2^24):=by
      grind
     by_cases hn:len*u.size=0
     ·have e0:len=0:=by
       rcases Nat.mul_eq_zero.1 hn with h|h<;>grind
      subst e0
      have f1':Instr.fill (fun i=>some (i*u.size,u.size)) ((Array.range (0*u.size)).map ((#[]:Array Value)[· % (#[]:Array Value).size]!)) vs.toList=some aoX:=by
       grind
      simp only[Instr.buildSlice,Sem.run_bind,underlying,run_program,Result.andThen_ok,h1,Sem.run_pure,hsz,aB hns,aA hn]
      rw[f1']
      trivial
     ·simp only[Instr.buildSlice,Sem.run_bind,underlying,run_program,Result.andThen_ok,h1,Sem.run_pure,hsz,aB hns,aB hn,hz]
      rw[f1]
      trivial
    have kp:di E w (E.at d (some w.heap.size) (.slice (some ⟨w.heap.size,0,none⟩) len len) (.arr len u)) {w with heap:=w.heap.push (.cells aoX td.e)}:=⟨fun b hb=>mb _ _ _ (h.hw.slt b hb),fun b hb=>hb⟩
    obtain⟨q1,q2⟩:=h.fresh hf (w':={w with heap:=w.heap.push (.cells aoX td.e)}) (g:=some w.heap.size) (sv:=.slice (some ⟨w.heap.size,0,none⟩) len len) (t:=.arr len u) (k:=.row td.e bs u xs) rfl (Tp.r rfl rfl) rfl (by simp) (fun i hi=>mb _ _ _ hi) (fun i hi=>by grind)
     (by
      refine⟨by simp[Env.at,f3],by grind,by grind,h6,some ⟨w.heap.size,0,none⟩,len,by simp[Env.at,f3],?_,Or.inr ⟨w.heap.size,aoX,by simp[Env.at],rfl,tF _ _,hcl,by omega,?_⟩⟩
      ·unfold aF at hc3;unfold maxLen;omega
      ·rw[f3,←hcl,j6 (by simp)]
       exact bO.mono (fun _ _=>Rel.mono kp.w kp.S) f2)
    exact⟨_,_,_,apa,q1,RV.gZ (Or.inr ⟨rfl,by simp[Env.at],some ⟨w.heap.size,0,none⟩,len,len,by simp[Env.at]⟩),q2⟩
   grind
  grind
 grind
end Go.Ax
namespace Go.Ax
def Nj(hb:Nat→Option aX)(bs:Nat)(u:Ty):AV→Option (List u.den)
 | .val (.slice bs' u') xs=>if h:Ty.same u' u=true then if Nat.beq bs' bs then some (Ty.aE h▸xs) else none else none
 | .aM=>some []
 |
  .own b=>match hb b with
  |some (.row _ bs' u' xs)=>if h:Ty.same u' u=true then if Nat.beq bs' bs then some (Ty.aE h▸xs) else none else none
  |_=>none
 |
  .nQ b lo len=>match hb b with
  |some (.row _ bs' u' xs)=>if h:Ty.same u' u=true then if Nat.beq bs' bs then some (Ty.aE h▸((xs.drop lo).take len)) else none else none
  |_=>none
 |
  .mL b p lo len=>match hb b with
  |
   some (.var _ v)=>match v.get p with
   |some (.val (.arr n u') xs)=>if h:Ty.same u' u=true then if Nat.ble (n*bs) aF&&Nat.ble n aF then some (Ty.aE h▸((List.drop lo xs).take len)) else none else none
   |_=>none
  |_=>none
 |_=>none
def aai(E:Env)(w:World)(bs:Nat)(u:Ty)(v:Value)(xs:List u.den):Prop:=
 ∃a cap,v= .slice a xs.length cap∧xs.length≤cap∧xs.length*bs≤aF∧xs.length≤aF∧
  (xs= []∨∃g o cs,a=some ⟨g,o,none⟩∧tX w ⟨g,o,none⟩ cs∧bO (Rel w E.S u) cs xs)
theorem Db{gl:Ctx}{E:Env}{w:World}{hp:List (Option aX)}(hw:HW gl E w hp){hb:Nat→Option aX}(hB:HB hb hp){bs:Nat}{u:Ty}{x:AV}{v:Value}{xs:List u.den}(hx:RV E w x v)(h:Nj hb bs u x=some xs):aai E w bs u v xs:=by
 unfold Nj at h
 split at h
 ·rename_i bs' u' ys
  split at h
  ·rename_i hs
   split at h
   ·rename_i hb'
    have e:=Ty.aE hs
    subst e
    have:=dm hb';subst this
    cases h
    obtain⟨a,cap,e,h1,h2,h3,h4⟩:=RV.atom rfl hx
    simp at e;subst e
    refine⟨a,cap,rfl,h1,h2,h3,h4.imp id ?_⟩<;>grind
   grind
  grind
 ·cases h
  have hx:=RV.atom rfl hx
  simp[RC] at hx;subst hx
  exact⟨none,0,rfl,cV _,by simp,by simp,Or.inl rfl⟩
 ·rename_i b
  split at h
  ·rename_i e0 bs' u' ys hk
   split at h
   ·rename_i hs
    split at h
    ·rename_i hb'
     have e:=Ty.aE hs
     subst e
     have:=dm hb';subst this
     cases h
     have hx:=RV.atom rfl hx
     obtain⟨hr,_⟩:=hx
     simp at hr
     obtain⟨h1,h2,h3,h4,a,cap,h5,h6,h7⟩:=hw.eJ b _ (hB b _ hk)
     rw[h5] at hr
     subst hr
     rcases h7 with⟨⟨h7,_⟩,h8,h9⟩|⟨g,c,h7,h8,h9,h10,h11,h12⟩
     ·subst h9;exact⟨a,cap,rfl,by simp,h2,h3,Or.inl rfl⟩
     ·refine⟨a,cap,rfl,h11,h2,h3,Or.inr ⟨g,0,_,h8,?_,h12⟩⟩
      have:=tX.of_heap h9 0 (List.length ys*u'.size)
      grind
    grind
   grind
  grind
 ·rename_i b lo len
  split at h
  ·rename_i e0 bs' u' ys hk
   split at h
   ·rename_i hs
    split at h
    ·rename_i hb'
     have e:=Ty.aE hs
     subst e
     have:=dm hb';subst this
     cases h
     obtain⟨a',c',n,tt,r1,r2,r3,r4,a2,r5,r6⟩:=RV.atom rfl hx
     simp at r5;subst r5
     obtain⟨h1,h2,h3,h4,a,cap,h5,h6,h7⟩:=hw.eJ b _ (hB b _ hk)
     rw[h1] at r1;cases r1
     rw[h5] at r2;cases r2
     have hlen:((ys.drop lo).take len).length=len:=by grind
     have hb1:len*bs'≤aF:=cW (ju _ (by omega)) h2
     refine⟨_,_,by rw[hlen],by grind,by grind,by grind,?_⟩
     rcases tD len with hz|hz
     ·grind
     ·rcases h7 with⟨h7,h8,h9⟩|⟨g,c,h7,h8,h9,h10,h11,h12⟩
      ·grind
      ·subst h8
       have hr0:=tX.of_heap h9 0 (ys.length*u'.size)
       simp only[fN] at hr0
       obtain⟨cs',q1,q2⟩:=bO.part hr0 h12 lo len
       grind [Addr.add]
    grind
   grind
  grind
 ·rename_i b p lo len
  split at h
  ·rename_i tt v' hk
   split at h
   ·rename_i n u' ys hv
    split at h
    ·rename_i hs
     split at h
     ·rename_i hc
      have e:=Ty.aE hs
      subst e
      cases h
      simp only[bP] at hc
      have hc1:=jt hc.1
      have hc2:=jt hc.2
      obtain⟨n2,t2,r1,r2,r3,a,cap,e,r4,r5⟩:=RV.atom rfl hx
      simp at e;subst e
      have hkb:=hw.eJ b _ (hB b _ hk)
      obtain⟨g,s,cs,q1,q2,q3,q4,q5⟩:=uT hkb r2 (u:=.val (.arr n u') ys) hv
      rw[r1] at q2;cases q2
      have:=Ty.aE (by simpa[AV.dY] using q3)
      cases this
      obtain⟨q5a,q5b⟩:=q5
      have hlen:((List.drop lo ys).take len).length=len:=by simp;omega
      have hb1:len*bs≤aF:=cW (ju _ (by omega)) hc1
      refine⟨a,cap,by rw[hlen],by grind,by grind,by grind,?_⟩
      rcases r5 with r5|⟨g',r5,r6⟩
      ·grind
      ·rw[q1] at r5;cases r5
       obtain⟨cs',z1,z2⟩:=bO.part q4 q5b lo len
       grind
     grind
    grind
   grind
  grind
 grind
def zA(G:dq)(hb:Nat→Option aX)(d:Nat)(t t2:TypeId)(s x:AV):Option (jv):=
 match G.at t with
 |
  some td=>match td.ty with
  |
   .slice bs u=>if Nat.beq t t2 then(match Nj hb bs u x with
   |
    some ys=>match s with
    | .aM=>some ⟨.own d,[(d,some (.row td.e bs u ys))],[d],[vc (ys.length*bs≤aF)]⟩
    |
     .own b=>match hb b with
     |some (.row e' bs' u' xs)=>if h:Ty.same u' u=true then if Nat.beq bs' bs&&Nat.beq e' td.e&& !Nat.beq b d then some ⟨.own d,[(b,none),(d,some (.row td.e bs u ((Ty.aE h▸xs:List u.den)++ys)))],[d],[vc ((xs.length+ys.length)*bs≤aF)]⟩ else none else none
     |_=>none
    |_=>none
   |none=>none) else none
  |_=>none
 |none=>none
theorem xQ{P:Program}{w:World}{t ty e:TypeId}{i:TypeInfo}(ht:P.underlying t=some (.slice e))(hi:P.info? e=some i)(a a2:Option Addr)(n cap c:Nat)(hn:n≤cap):
 (Builtin.append_ #[t,t] ty #[.slice a n cap,.slice a2 0 c]).run P w= .ok (.slice a n cap) w:=by
 have hf:(Builtin.firstCells i.size 0 (.slice a2 0 c)).run P w= .ok #[] w:=by
  cases a2<;>simp[Builtin.firstCells,loadCells,loadCellsFrom]
 cases a with
 |none=>simp[Builtin.append_,run_underlying ht,sizeOf,typeInfo,hi,Builtin.lenOf,hn,hf]
 |some a=>simp[Builtin.append_,run_underlying ht,sizeOf,typeInfo,hi,Builtin.lenOf,hn,hf,storeCells]
theorem bO.Bz{w:World}{S:Nat→Prop}{u:Ty}{cs:List Value}{xs:List u.den}(h:bO (Rel w S u) cs xs):∀v∈cs,v.oneCell'=true:=
 Rel.one (t:=.arr xs.length u) (x:=xs) (w:=w) (S:=S) ⟨rfl,h⟩
def tJ(E:Env)(w0 w:World)(e:TypeId)(u:Ty)(v:Value)(g:Option Nat)(xs:List u.den):Prop:=
 (v= .slice none 0 0∧xs= []∧g=none)∨
 ∃i cap cur,g=some i∧v= .slice (some ⟨i,0,none⟩) xs.length cap∧w.heap[i]? =some (.cells cur e (0,0))∧xs.length≤cap∧cap≤maxLen∧cur.size=cap*u.size∧bO (Rel w0 E.S u) (cur.toList.take (xs.length*u.size)) xs
theorem zB{P:Program}{gl:Ctx}{G:dq}(T:cQ P G){w:World}{E:Env}{t ty:TypeId}{td:TD}(ht:G.at t=some td){bs:Nat}{u:Ty}(hty:td.ty= .slice bs u)
 {v x:Value} {g:Option Nat} {xs ys:List u.den} (hv:tJ E w w td.e u v g xs) (hx:aai E w bs u x ys) (hb:(xs.length+ys.length)*bs≤aF):
 ∃v' w' g',(Builtin.append_ #[t,t] ty #[v,x]).run P w= .ok v' w'∧tJ E w w' td.e u v' g' (xs++ys)∧w'.os=w.os∧Tp gl.md w w'∧w'.output=w.output∧w.heap.size≤w'.heap.size∧
  (∀k,k<w.heap.size→g≠some k→w'.heap[k]? =w.heap[k]?)∧(∀k,g'=some k→g=some k∨w.heap.size≤k):=by
 obtain⟨te,ie,h1,h2,h3,h4,h5,h6,h7⟩:=T.eK ht hty
 obtain⟨a,c,rfl,hc1,hc2,hc3,hx⟩:=hx
 have hmn:xs.length+ys.length≤aF:=cW (Nat.le_mul_of_pos_right _ h7) hb
 obtain⟨i',d',h1i,_,hsz,_,z,hz,hz1,_⟩:=T.info h2
 rw[h4] at h1i;cases h1i
 rw[h3] at hsz hz1
 have hzl:z.cells.size=u.size:=by
  have:=RC.len (jF (E:=E) (w:=w) hz1).1
  grind [AV.hH,Ty.wD]
 rcases tD ys.length with hm|hm
 ·have hy:ys= []:=ES hm
  subst hy
  have hn:∃ad n cap,v= .slice ad n cap∧n≤cap:=by
   rcases hv with⟨e,_,_⟩|⟨i,cap,cur,_,e,_,h,_⟩<;>grind
  obtain⟨ad,n,cap,e,hn⟩:=hn
  refine⟨v,w,g,?_,by grind,rfl,Tp.r rfl rfl,rfl,cV _,fun _ _ _=>rfl,fun k hk=>Or.inl hk⟩
  grind [xQ]
 ·rcases hx with hx|⟨ga,oa,cs,rfl,hr,apD⟩
  ·grind
  ·have hl:cs.length=ys.length*ie.size:=by grind [bO.len,Rel.len]
   have mx:aF≤maxLen:=by trivial
   have hbb:(xs.length+ys.length)*ie.bytes≤140737488355328:=by rw[h5];exact hb
   have grown:∀(old:Nat)(os:List Value),bO (Rel w E.S u) os xs→
    tJ E w (w.drew.alloc (.cells (os.toArray++cs.toArray++Builtin.zeroCells z.cells (grownCap w (xs.length+ys.length) old td.e -(xs.length+ys.length))) td.e)) td.e u
     (.slice (some ⟨w.heap.size,0,none⟩) (xs.length+ys.length) (grownCap w (xs.length+ys.length) old td.e)) (some w.heap.size) (xs++ys):=by
    intro old os hos
    have hge:=grownCap_ge w (xs.length+ys.length) old td.e
    have hol:os.length=xs.length*u.size:=bO.len (fun _ _ h=>Rel.len h) hos
    refine Or.inr ⟨w.heap.size,_,_,rfl,by rw[cz],heap_alloc_new w.drew _,by grind,grownCap_le_maxLen w _ _ _ (by omega),?_,?_⟩
    ·simp only[Array.size_append,List.size_toArray,size_zeroCells,hzl,hol,hl,hsz,←iW]
     grind
    grind [bO.append,iW]
   rcases hv with⟨rfl,rfl,rfl⟩|⟨i,cap,cur,rfl,rfl,hg,hnc,hcm,hcs,hrelx⟩
   ·have hbb0:ys.length*ie.bytes≤140737488355328:=by grind
    have hr':=run_append_nil (P:=P) w t ty td.e ie z h1 h4 hz ⟨ga,oa,none⟩ ys.length c cs hl hr hm (by unfold aF at hmn;omega) (by omega)
    have hgr:=grown 0 [] rfl
    simp only[fO,ek,jW] at hgr ⊢
    refine⟨_,_,some w.heap.size,hr',?_,rfl,Tp.s rfl rfl,rfl,by simp,fun k hk _=>heap_alloc_old w.drew _ k hk,fun k hk=>by cases hk;exact Or.inr (cV _)⟩<;>grind
   ·by_cases hroom:xs.length+ys.length≤cap
    ·have hfit:xs.length*ie.size+cs.length≤cur.size:=by rw[hl,hcs,hsz,←iW];exact ju _ hroom
     have hr':=run_append_room (P:=P) w t ty td.e ie h1 h4 i xs.length cap cur hg ⟨ga,oa,none⟩ ys.length c cs hl hr (bO.Bz apD) hroom hfit
     refine⟨_,_,some i,hr',Or.inr ⟨i,cap,_,rfl,by grind,setRow_heap w i cur _ td.e _ hg,by grind,hcm,?_,?_⟩,rfl,Tp.r rfl rfl,rfl,by simp,fun k _ hk=>setRow_other w i k _ (fun e=>hk (by rw[e])),fun k hk=>Or.inl hk⟩
     ·grind
     ·rw[hsz] at hfit ⊢
      have hol:(cur.toList.take (xs.length*u.size)).length=xs.length*u.size:=by grind
      grind [iW,bO.append]
    ·have holds:∀j v,(cur.toList.take (xs.length*u.size))[j]? =some v→w.cell? ((⟨i,0,none⟩:Addr).add j)=some v:=by
      have:=tX.of_heap hg 0 (xs.length*u.size)
      trivial
     have hol:(cur.toList.take (xs.length*u.size)).length=xs.length*ie.size:=by
      simp_all
     have hr':=run_append_grow (P:=P) w t ty td.e ie z h1 h4 hz ⟨i,0,none⟩ xs.length cap _ hol holds ⟨ga,oa,none⟩ ys.length c cs hl hr (by omega) (by unfold aF at hmn;omega) (growslice_fits (by omega) hbb)
     exact⟨_,_,some w.heap.size,hr',grown cap _ hrelx,rfl,Tp.s rfl rfl,rfl,by simp,fun k hk _=>heap_alloc_old w.drew _ k hk,fun k hk=>by grind⟩
theorem HW.swap{gl:Ctx}{E:Env}{w w':World}{hp:List (Option aX)}(h:HW gl E w hp){b d:Nat}{k k':aX}{g:Option Nat}{sv:Value}{t:Ty}(hb:hp[b]? =some (some k))(hbd:b≠d)
 (hsz:w.heap.size≤w'.heap.size) (hold:∀i,i<w.heap.size→E.g b≠some i→w'.heap[i]? =w.heap[i]?) (hids:∀(c:Nat)(k':aX),hp[c]? =some (some k')→d∉k'.ids)
 (hg:∀i,g=some i→E.g b=some i∨w.heap.size≤i) (hk:RB (E.at d g sv t) w' d k'):HW gl (E.at d g sv t) w' ((hp.set b none).set d (some k')):=by
 have kp:di E w (E.at d g sv t) w':=⟨fun i hi=>hold i (h.slt i hi) (fun e=>h.oM b k i hb e hi),fun b hb=>hb⟩
 have old:∀(c:Nat)(k2:aX),c≠d→((hp.set b none).set d (some k'))[c]? =some (some k2)→hp[c]? =some (some k2)∧c≠b:=by
  grind
 have hno:∀(c:Nat)(k2:aX)(i:Nat),hp[c]? =some (some k2)→c≠b→E.has c i→g≠some i:=by
  intro c k2 i hc hcb hgi e
  rcases hg i e with h1|h1
  ·exact hcb (h.gY c b k2 k i hc hb hgi (Or.inl h1))
  ·have:=cU.below h ⟨c,k2,hc,hgi⟩;omega
 refine⟨?_,?_,?_,fun i hi=>Nat.lt_of_lt_of_le (h.slt i hi) hsz,h.kz kp,?_⟩
 ·intro c k2 hc
  by_cases e:c=d
  ·grind
  ·obtain⟨hc',hcb⟩:=old c k2 e hc
   refine RB.mono kp (Env.EV ?_) ?_ (fun _ g hg=>by simpa[Env.at,e] using hg) (h.eJ c k2 hc')
   ·grind
   ·intro i hi
    exact hold i (cU.below h ⟨c,k2,hc',hi⟩) (fun e'=>hcb (h.gY c b k2 k i hc' hb hi (Or.inl e')))
 ·intro c c' k1 k2 i hc hc' g1 g2
  by_cases e:c=d<;>by_cases e':c'=d
  ·grind
  ·grind [Env.oe,Env.mC]
  ·grind [Env.oe,Env.mC]
  ·exact h.gY c c' k1 k2 i (old c k1 e hc).1 (old c' k2 e' hc').1 ((Env.mC e).1 g1) ((Env.mC e').1 g2)
 ·intro c k1 i hc g1 hs
  by_cases e:c=d
  ·subst e
   rcases hg i (Env.oe.1 g1) with h1|h1
   ·exact h.oM b k i hb h1 hs
   ·have:=h.slt i hs;omega
  ·exact h.fZ c k1 i (old c k1 e hc).1 ((Env.mC e).1 g1) hs
 ·intro c k1 i hc g1
  by_cases e:c=d
  ·subst e;simp[Env.at] at g1
  ·have g1:E.P c i:=by simpa[Env.at,e] using g1
   exact Nat.lt_of_lt_of_le (h.xi c k1 i (old c k1 e hc).1 g1) hsz
theorem dE.swap{gl:Ctx}{σ:St}{E:Env}{a:Act}{w w':World}(h:dE gl σ E a w){b d:Nat}{k k':aX}{g:Option Nat}{sv:Value}{t:Ty}(hf:σ.fresh d)(hb:σ.hp[b]? =some (some k))(hbd:b≠d)
 (hos:w'.os=w.os) (hta:Tp gl.md w w') (hou:w'.output=w.output) (hsz:w.heap.size≤w'.heap.size) (hold:∀i,i<w.heap.size→E.g b≠some i→w'.heap[i]? =w.heap[i]?)
 (hg:∀i,g=some i→E.g b=some i∨w.heap.size≤i) (hk:RB (E.at d g sv t) w' d k'):
 dE gl {σ with hp:=bJ σ.hp [(b,none),(d,some k')]} (E.at d g sv t) a w'∧Ext gl.md (cU σ.hp E) E w (cU (bJ σ.hp [(b,none),(d,some k')]) (E.at d g sv t)) (E.at d g sv t) w':=by
 have kp:di E w (E.at d g sv t) w':=⟨fun i hi=>hold i (h.hw.slt i hi) (fun e=>h.hw.oM b k i hb e hi),fun b hb=>hb⟩
 have hw:=h.hw.swap (w':=w') (sv:=sv) (t:=t) hb hbd hsz hold (fun c k' hk hm=>hf.1 (St.CZ hk d hm)) hg hk
 refine⟨h.carry kp (Env.EV hf.1) hw,hos,hta,hou,hsz,?_,fun i hi=>hi,fun i hi=>Or.inl hi,?_,Env.MW hf.2.2⟩
 ·intro i hi hn
  exact hold i hi (fun e=>hn ⟨b,k,hb,Or.inl e⟩)
 ·rintro i ⟨c,k2,hc,hgi⟩
  simp only[bJ] at hc
  by_cases e:c=d
  ·subst e
   exact(hg i (Env.oe.1 hgi)).imp (fun h1=>⟨b,k,hb,Or.inl h1⟩) id
  ·have hgi:=(Env.mC e).1 hgi
   rw[fY,aB (fun e'=>e e'.symm),fY] at hc
   split at hc
   ·grind
   ·exact Or.inl ⟨c,k2,hc,hgi⟩
theorem tJ.RB{E:Env}{w w':World}{e:TypeId}{bs:Nat}{u:Ty}{v:Value}{g:Option Nat}{xs:List u.den}{d:Nat}(h:tJ E w w' e u v g xs)(hu:0<u.size)(hb:xs.length*bs≤aF)(hm:xs.length≤aF)(kp:di E w (E.at d g v (.arr xs.length u)) w'):
 RB (E.at d g v (.arr xs.length u)) w' d (.row e bs u xs)∧RV (E.at d g v (.arr xs.length u)) w' (.own d) v:=by
 rcases h with⟨rfl,rfl,rfl⟩|⟨i,cap,cur,rfl,rfl,h1,h2,h3,h4,h5⟩
 ·refine⟨⟨by simp[Env.at],by simp,by simp,hu,none,0,by simp[Env.at],by simp[maxLen],Or.inl ⟨⟨rfl,rfl⟩,by simp[Env.at],rfl⟩⟩,RV.gZ (Or.inr ⟨rfl,by simp[Env.at],none,0,0,by simp[Env.at]⟩)⟩
 ·refine⟨⟨by simp[Env.at],hb,hm,hu,some ⟨i,0,none⟩,cap,by simp[Env.at],h3,Or.inr ⟨i,cur,by simp[Env.at],rfl,h1,h4,h2,bO.mono (fun _ _=>Rel.mono kp.w kp.S) h5⟩⟩,RV.gZ (Or.inr ⟨rfl,by simp[Env.at],some ⟨i,0,none⟩,xs.length,cap,by simp[Env.at]⟩)⟩
theorem Fg{P:Program}{G:dq}(T:cQ P G){gl:Ctx}{σ:St}{E:Env}{a:Act}{w:World}(h:dE gl σ E a w){hb:Nat→Option aX}(hB:HB hb σ.hp){d:Nat}{t t2 ty:TypeId}{s x:AV}{vs vx:Value}(hs:RV E w s vs)(hx:RV E w x vx){r:jv}
 (he:zA G hb d t t2 s x=some r) (hvc:gm r.vc) (hfr:∀b∈r.fr,σ.fresh b):
 ∃v w' E',(Builtin.append_ #[t,t2] ty #[vs,vx]).run P w= .ok v w'∧dE gl {σ with hp:=bJ σ.hp r.hw} E' a w'∧RV E' w' r.v v∧Ext gl.md (cU σ.hp E) E w (cU (bJ σ.hp r.hw) E') E' w':=by
 unfold zA at he
 split at he
 ·rename_i td ht
  split at he
  ·rename_i bs u hty
   split at he
   ·rename_i ht2
    have:=dm ht2;subst this
    obtain⟨te,ie,h1,h2,h3,h4,h5,h6,h7⟩:=T.eK ht hty
    split at he
    ·rename_i ys hys
     have hsl:=Db h.hw hB hx hys
     split at he
     ·cases he
      have hbd:ys.length*bs≤aF:=hvc.1
      have hs:=RV.atom rfl hs
      simp[RC] at hs;subst hs
      obtain⟨v',w',g',r1,r2,r3,r4,r5,r6,r7,r8⟩:=zB (P:=P) T (ty:=ty) ht hty (xs:=[]) (g:=none) (Or.inl ⟨rfl,rfl,rfl⟩) hsl (by grind)
      simp only[jW] at r2
      have kp:di E w (E.at d g' v' (.arr ys.length u)) w':=⟨fun i hi=>r7 i (h.hw.slt i hi) (by simp),fun _ h=>h⟩
      obtain⟨q1,q2⟩:=tJ.RB (bs:=bs) (d:=d) r2 h6 hbd (cW (Nat.le_mul_of_pos_right _ h7) hbd) kp
      obtain⟨z1,z2⟩:=h.fresh (hfr d (by simp)) (w':=w') (g:=g') (sv:=v') (t:=.arr ys.length u) (k:=.row td.e bs u ys) r3 r4 r5 r6 (fun i hi=>r7 i hi (by simp)) (fun i hi=>(r8 i hi).resolve_left (by simp)) q1
      exact⟨v',w',_,r1,z1,q2,z2⟩
     ·rename_i b
      split at he
      ·rename_i e' bs' u' xs hk
       split at he
       ·rename_i hsame
        split at he
        ·rename_i hc
         simp only[bP,lF] at hc
         have e:=Ty.aE hsame
         subst e
         have:=dm hc.1.1;subst this
         have:=dm hc.1.2;subst this
         have hne:b≠d:=fun e=>by simp_all
         cases he
         have hbd:(xs.length+ys.length)*bs'≤aF:=hvc.1
         have hs:=RV.atom rfl hs
         obtain⟨hs,_⟩:=hs
         simp at hs;subst hs
         have hkb:=hB b _ hk
         obtain⟨b1,b2,b3,b4,ad,cap,b5,b6,b7⟩:=h.hw.eJ b _ hkb
         have hrow:tJ E w w td.e u' (E.sv b) (E.g b) xs:=by
          rw[b5]
          rcases b7 with⟨⟨b7,b7'⟩,b8,b9⟩|⟨i,cur,b7,b8,b9,b10,b11,b12⟩
          ·subst b9;subst b7;subst b7';exact Or.inl ⟨rfl,rfl,b8⟩
          ·subst b8;exact Or.inr ⟨i,cap,cur,b7,rfl,b9,b11,b6,b10,b12⟩
         obtain⟨v',w',g',r1,r2,r3,r4,r5,r6,r7,r8⟩:=zB (P:=P) T (ty:=ty) ht hty hrow hsl hbd
         have kp:di E w (E.at d g' v' (.arr (xs++ys).length u')) w':=⟨fun i hi=>r7 i (h.hw.slt i hi) (fun e=>h.hw.oM b _ i hkb e hi),fun _ h=>h⟩
         have hlen:(xs++ys).length=xs.length+ys.length:=cz
         obtain⟨q1,q2⟩:=tJ.RB (bs:=bs') (d:=d) r2 h6 (by grind) (by rw[hlen];exact cW (Nat.le_mul_of_pos_right _ h7) hbd) kp
         obtain⟨z1,z2⟩:=h.swap (hfr d (by simp)) hkb hne r3 r4 r5 r6 r7 r8 q1
         grind
        grind
       grind
      grind
     grind
    grind
   grind
  grind
 grind
end Go.Ax
namespace Go.Ax
def Fh:Option AV→Option (Option Int)
 |none=>some none
 |some (.val (.int _) i)=>some (some i)
 |some _=>none
def RO(E:Env)(w:World):Option AV→Option Value→Prop
 |none,none=>True
 |some x,some v=>RV E w x v
 |_,_=>False
def eE(lo hi mx:Option Int)(n:Nat):Nat×Nat×List VC:=
 match lo,hi,mx with
 |none,none,none=>(0,n,[])
 |some l,none,none=>(l.toNat,n,[vc (0≤l),vc (l≤n)])
 |none,some h,none=>(0,h.toNat,[vc (0≤h),vc (h≤n)])
 |some l,some h,none=>(l.toNat,h.toNat,[vc (0≤l),vc (l≤h),vc (h≤n)])
 |none,some h,some m=>(0,h.toNat,[vc (0≤h),vc (h≤m),vc (m≤n)])
 |some l,some h,some m=>(l.toNat,h.toNat,[vc (0≤l),vc (l≤h),vc (h≤m),vc (m≤n)])
 |_,none,some _=>(0,0,[vc False])
theorem xR{P:Program}{E:Env}{w:World}{lo hi mx:Option AV}{vl vh vm:Option Value}{l h m:Option Int}(hl:RO E w lo vl)(hh:RO E w hi vh)(hm:RO E w mx vm)(el:Fh lo=some l)(eh:Fh hi=some h)(em:Fh mx=some m)
 (On:Bool) (n cap:Nat) (hn:n≤cap) (hvc:gm (eE l h m n).2.2):
 ∃mm,(Instr.sliceBounds On n cap vl vh vm).run P w= .ok ((eE l h m n).1,(eE l h m n).2.1,mm) w∧(eE l h m n).1≤(eE l h m n).2.1∧(eE l h m n).2.1≤n∧(eE l h m n).2.1≤mm∧mm≤cap∧(m=none→mm=cap):=by
 have key:∀{x:Option AV}{v:Option Value}{i:Option Int},RO E w x v→Fh x=some i→(i=none∧v=none)∨∃k j,i=some j∧v=some (.int k j):=by
  intro x v i hr hb
  cases x with
  |
   none=>cases v with
   |none=>cases hb<;>grind
   |some v=>trivial
  |
   some x=>cases v with
   |none=>trivial
   |
    some v=>
    cases x with
    |
     val t y=>
     cases t<;>simp[Fh] at hb
     rename_i k
     obtain⟨rfl,_⟩:=RV.fw hr
     grind
    |_=>trivial
 rcases key hl el with⟨rfl,rfl⟩|⟨kl,jl,rfl,rfl⟩<;>rcases key hh eh with⟨rfl,rfl⟩|⟨kh,jh,rfl,rfl⟩<;>rcases key hm em with⟨rfl,rfl⟩|⟨km,jm,rfl,rfl⟩
 ·simp_all[Instr.sliceBounds,eE]
 ·exact hvc.1.elim
 ·obtain⟨h1,h2,_⟩:=hvc
  refine⟨cap,?_,by simp[eE],by simp[eE];omega,by simp[eE];omega,cV _,fun _=>rfl⟩
  have b1:(jh:Int)≤cap:=by omega
  simp_all[Instr.sliceBounds,eE,run_sliceBound]
 ·obtain⟨h1,h2,h3,_⟩:=hvc
  refine⟨jm.toNat,?_,by simp[eE],by simp[eE];omega,by simp[eE];omega,by omega,fun h=>by cases h⟩
  have b1:(jm:Int)≤cap:=by omega
  have b2:(jh:Int)≤(jm.toNat:Nat):=by omega
  simp[Instr.sliceBounds,eE,run_sliceBound (P:=P) w km jm cap _ (by omega) b1,run_sliceBound (P:=P) w kh jh jm.toNat _ h1 b2]
 ·obtain⟨h1,h2,_⟩:=hvc
  simp_all[eE,Instr.sliceBounds,run_sliceBound]
 ·exact hvc.1.elim
 ·obtain⟨h1,h2,h3,_⟩:=hvc
  refine⟨cap,?_,by simp[eE];omega,by simp[eE];omega,by simp[eE];omega,cV _,fun _=>rfl⟩
  have b1:(jh:Int)≤cap:=by omega
  have b2:(jl:Int)≤(jh.toNat:Nat):=by omega
  simp[Instr.sliceBounds,eE,run_sliceBound (P:=P) w kh jh cap _ (by omega) b1,run_sliceBound (P:=P) w kl jl jh.toNat _ h1 b2]
 ·obtain⟨h1,h2,h3,h4,_⟩:=hvc
  refine⟨jm.toNat,?_,by simp[eE];omega,by simp[eE];omega,by simp[eE];omega,by omega,fun h=>by cases h⟩
  have b1:(jm:Int)≤cap:=by omega
  have b2:(jh:Int)≤(jm.toNat:Nat):=by omega
  have b3:(jl:Int)≤(jh.toNat:Nat):=by omega
  simp[Instr.sliceBounds,eE,run_sliceBound (P:=P) w km jm cap _ (by omega) b1,run_sliceBound (P:=P) w kh jh jm.toNat _ (by omega) b2,run_sliceBound (P:=P) w kl jl jh.toNat _ h1 b3]
def fy{α:Type}(xs:List α)(l h:Nat):List α:=(xs.drop l).take (h -l)
def Fi(G:dq)(hb:Nat→Option aX)(t:TypeId)(x:AV)(l h m:Option Int):Option (AV×List VC):=
 match G.at t with
 |
  some td=>
  match td.ty,x with
  | .slice bs u,.val (.slice bs' u') xs=>if Nat.beq bs bs'&&Ty.same u u' then some (.val (.slice bs' u') (fy xs (eE l h m xs.length).1 (eE l h m xs.length).2.1),(eE l h m xs.length).2.2) else none
  | .slice _ _,.aM=>some (.aM,(eE l h m 0).2.2)
  |
   .slice _ u,.own b=>match hb b,m with
   |some (.row _ _ u' xs),none=>if Ty.same u u' then some (.nQ b (eE l h none xs.length).1 ((eE l h none xs.length).2.1 -(eE l h none xs.length).1),(eE l h none xs.length).2.2) else none
   |_,_=>none
  |
   .slice _ u,.nQ b lo len=>match hb b,m with
   |some (.row _ _ u' _),none=>if Ty.same u u' then some (.nQ b (lo+(eE l h none len).1) ((eE l h none len).2.1 -(eE l h none len).1),(eE l h none len).2.2) else none
   |_,_=>none
  |
   .slice _ u,.mL b p lo len=>match hb b with
   |
    some (.var tt _)=>match tt.sub p with
    |some (.arr _ u')=>if Ty.same u u' then some (.mL b p (lo+(eE l h m len).1) ((eE l h m len).2.1 -(eE l h m len).1),(eE l h m len).2.2) else none
    |_=>none
   |_=>none
  |
   .arr n u,.ptr b p=>match hb b with
   |
    some k=>match(mG k).sub p with
    |some (.arr n' u')=>if Ty.same u u'&&Nat.beq n n' then some (.mL b p (eE l h m n).1 ((eE l h m n).2.1 -(eE l h m n).1),(eE l h m n).2.2) else none
    |_=>none
   |_=>none
  | .arr n u,.dk (.arr n' u') xs=>if Ty.same u u'&&Nat.beq n n'&&Nat.ble (n*td.e2) aF&&Nat.ble n aF then some (.val (.slice td.e2 u') (fy xs (eE l h m n).1 (eE l h m n).2.1),(eE l h m n).2.2) else none
  |
   .str,.val .str s=>match m with
   |none=>some (.val .str (fy s (eE l h none s.length).1 (eE l h none s.length).2.1),(eE l h none s.length).2.2)
   |some _=>none
  |_,_=>none
 |none=>none
def Dc(G:dq)(hb:Nat→Option aX)(t:TypeId)(x:AV)(lo hi mx:Option AV):Option (AV×List VC):=
 match Fh lo,Fh hi,Fh mx with
 |some l,some h,some m=>Fi G hb t x l h m
 |_,_,_=>none
theorem Addr.ka(g o k:Nat):((⟨g,o,none⟩:Addr).add k)=⟨g,o+k,none⟩:=by
 unfold Addr.add;grind
theorem ld{P:Program}{w:World}{t e:TypeId}{sz n cap L H mm:Nat}{a:Option Addr}{vl vh vm:Option Value}(h1:P.underlying t=some (.slice e))(hsz:(sizeOf e).run P w= .ok sz w)(hb:(Instr.sliceBounds true n cap vl vh vm).run P w= .ok (L,H,mm) w):
 (Instr.sliceAt t (.slice a n cap) vl vh vm).run P w= .ok (.slice (if mm=L then a else a.map (·.add (L*sz))) (H -L) (mm -L)) w:=by
 simp[Instr.sliceAt,Instr.slice,underlying,h1,hb,hsz]
theorem vj{P:Program}{w:World}{t e:TypeId}{sz n L H mm:Nat}{a:Addr}{vl vh vm:Option Value}(h1:P.underlying t=some (.array n e))(hsz:(sizeOf e).run P w= .ok sz w)(hb:(Instr.sliceBounds false n n vl vh vm).run P w= .ok (L,H,mm) w):
 (Instr.sliceAt t (.pointer (some a)) vl vh vm).run P w= .ok (.slice (some (if mm=L then a else a.add (L*sz))) (H -L) (mm -L)) w:=by
 simp_all[Instr.sliceAt,Instr.sureAddr,underlying]
theorem H8{P:Program}{G:dq}(T:cQ P G){gl:Ctx}{E:Env}{w:World}{hp:List (Option aX)}(hw:HW gl E w hp){hb:Nat→Option aX}(hB:HB hb hp){t:TypeId}{x u:AV}{vx:Value}{lo hi mx:Option AV}{vl vh vm:Option Value}{vc:List VC}
 (hx:RV E w x vx) (hl:RO E w lo vl) (hh:RO E w hi vh) (hm:RO E w mx vm) (he:Dc G hb t x lo hi mx=some (u,vc)) (hvc:gm vc):
 ∃v,(Instr.sliceAt t vx vl vh vm).run P w= .ok v w∧RV E w u v:=by
 unfold Dc at he
 split at he
 ·rename_i l h m el eh em
  have B:=fun On n cap hn hv=>xR (P:=P) hl hh hm el eh em On n cap hn hv
  unfold Fi at he
  split at he
  ·rename_i td ht
   split at he
   ·rename_i bs u bs' u' xs hty
    split at he
    ·rename_i hc
     cases he
     simp only[bP] at hc
     have:=dm hc.1;subst this
     have:=Ty.aE hc.2;subst this
     obtain⟨te,ie,h1,h2,h3,h4,h5,h6,h7⟩:=T.eK ht hty
     have hsz:=T.size h2 w
     rw[h3] at hsz
     obtain⟨a,cap,e,q1,q2,q3,q4⟩:=RV.atom rfl hx
     simp at e;subst e
     obtain⟨mm,b1,b2,b3,b4,b5,b6⟩:=B true xs.length cap q1 hvc
     generalize (eE l h m xs.length).1=L at*
     generalize (eE l h m xs.length).2.1=H at*
     refine⟨_,ld h1 hsz b1,?_⟩
     have hlen:(fy xs L H).length=H -L:=by simp[fy];omega
     refine RV.gZ (Or.inr ⟨rfl,_,_,by rw[hlen],by grind,by rw[hlen];exact cW (ju _ (by omega)) q2,by grind,?_⟩)
     rcases tD (H -L) with hz|hz
     ·grind
     ·rcases q4 with q4|⟨b,o,cs,e1,e2,e3,e4⟩
      ·grind
      ·subst e1
       obtain⟨cs',z1,z2⟩:=bO.part e3 e4 L (H -L)
       refine Or.inr ⟨b,o+L*u.size,cs',?_,e2,z1,z2⟩
       rw[aB (by omega)]
       simp[Addr.ka]
    grind
   ·rename_i hty
    cases he
    obtain⟨te,ie,h1,h2,h3,h4,h5,h6,h7⟩:=T.eK ht hty
    have hsz:=T.size h2 w
    have hx:=RV.atom rfl hx
    simp[RC] at hx;subst hx
    obtain⟨mm,b1,b2,b3,b4,b5,b6⟩:=B true 0 0 (cV _) hvc
    generalize (eE l h m 0).1=L at*
    generalize (eE l h m 0).2.1=H at*
    have:L=0:=by omega
    have:H=0:=by omega
    have:mm=0:=by omega
    subst_vars
    exact⟨.slice none 0 0,by rw[ld h1 hsz b1];simp,RV.gZ (Or.inr ⟨rfl,rfl⟩)⟩
   ·rename_i bs u b hty
    split at he
    ·rename_i e0 bs0 u' xs hk
     split at he
     ·rename_i hc
      cases he
      have:=Ty.aE hc;subst this
      obtain⟨te,ie,h1,h2,h3,h4,h5,h6,h7⟩:=T.eK ht hty
      have hsz:=T.size h2 w
      rw[h3] at hsz
      have hx:=RV.atom rfl hx
      obtain⟨hx,_⟩:=hx
      simp at hx;subst hx
      obtain⟨q1,q2,q3,q4,a,cap,q5,q6,q7⟩:=hw.eJ b _ (hB b _ hk)
      have hnc:xs.length≤cap:=by
       grind
      obtain⟨mm,b1,b2,b3,b4,b5,b6⟩:=B true xs.length cap hnc hvc
      have:=b6 rfl;subst this
      generalize (eE l h none xs.length).1=L at*
      generalize (eE l h none xs.length).2.1=H at*
      rw[q5]
      refine⟨_,ld h1 hsz b1,RV.gZ (Or.inr ⟨rfl,a,mm,xs.length,u,q1,q5,by omega,hnc,_,rfl,?_⟩)⟩
      by_cases hL:L=0
      ·grind [Addr.ka]
      grind
     grind
    grind
   ·rename_i bs u b lo' len hty
    split at he
    ·rename_i e0 bs0 u' xs hk
     split at he
     ·rename_i hc
      cases he
      have:=Ty.aE hc;subst this
      obtain⟨te,ie,h1,h2,h3,h4,h5,h6,h7⟩:=T.eK ht hty
      have hsz:=T.size h2 w
      rw[h3] at hsz
      obtain⟨a,c,n,tt,r1,r2,r3,r4,a2,e,r6⟩:=RV.atom rfl hx
      simp at e;subst e
      obtain⟨q1,q2,q3,q4,a',cap,q5,q6,q7⟩:=hw.eJ b _ (hB b _ hk)
      rw[q1] at r1;cases r1
      obtain⟨mm,b1,b2,b3,b4,b5,b6⟩:=B true len (c -lo') (by omega) hvc
      have:=b6 rfl;subst this
      generalize (eE l h none len).1=L at*
      generalize (eE l h none len).2.1=H at*
      refine⟨_,ld h1 hsz b1,RV.gZ (Or.inr ⟨rfl,a,c,xs.length,u,q1,r2,by omega,r4,_,by rw[Nat.sub_sub],?_⟩)⟩
      by_cases hL:lo'+L=0
      ·have h1:lo'=0:=by omega
       have h2:L=0:=by omega
       subst h1;subst h2
       refine Or.inr ?_
       rcases r6 with r6|r6
       ·grind
       grind [Addr.ka]
      rcases tD (H -L) with hz|hz
      ·grind
      ·refine Or.inr ?_
       rw[aB (by omega)]
       rcases r6 with r6|r6
       ·omega
       ·rw[r6]
        rcases q7 with⟨_,_,q9⟩|⟨g,cc,q7,q8,q9,q10,q11,q12⟩
        ·grind
        grind [Addr.ka]
     grind
    grind
   ·rename_i bs u b p lo' len hty
    split at he
    ·rename_i tt v hk
     split at he
     ·rename_i n u' apk
      split at he
      ·rename_i hc
       cases he
       have:=Ty.aE hc;subst this
       obtain⟨te,ie,h1,h2,h3,h4,h5,h6,h7⟩:=T.eK ht hty
       have hsz:=T.size h2 w
       rw[h3] at hsz
       obtain⟨n2,t2,r1,r2,r3,a,cap,e,r4,r5⟩:=RV.atom rfl hx
       simp at e;subst e
       obtain⟨q1,_⟩:=hw.eJ b _ (hB b _ hk)
       have r1':=r1
       rw[q1,apk] at r1';cases r1'
       obtain⟨mm,b1,b2,b3,b4,b5,b6⟩:=B true len cap r4 hvc
       generalize (eE l h m len).1=L at*
       generalize (eE l h m len).2.1=H at*
       refine⟨_,ld h1 hsz b1,RV.gZ (Or.inr ⟨rfl,n,u,r1,r2,by omega,_,_,rfl,by omega,?_⟩)⟩
       rcases tD (H -L) with hz|hz
       ·grind
       ·rcases r5 with r5|⟨g,r5,r6⟩
        ·omega
        ·refine Or.inr ⟨g,r5,?_⟩
         rw[aB (by omega),r6]
         simp[Addr.ka,iW,Nat.add_assoc]
      grind
     grind
    grind
   ·rename_i n u b p hty
    split at he
    ·rename_i kk hk
     split at he
     ·rename_i n' u' apk
      split at he
      ·rename_i hc
       cases he
       simp only[bP] at hc
       have:=Ty.aE hc.1;subst this
       have:=dm hc.2;subst this
       obtain⟨te,h1,h2,h3⟩:=T.uU ht hty
       have hsz:=T.size h2 w
       rw[h3] at hsz
       obtain⟨g,hg,e,hv⟩:=RV.atom rfl hx
       simp at e;subst e
       have hbt:=RB.bt (hw.eJ b kk (hB b kk hk)) (sO (q:=.idx 0) (s:=u) apk (by simp[Ty.sub,Ty.JS]))
       rw[←hbt] at apk
       obtain⟨mm,b1,b2,b3,b4,b5,b6⟩:=B false n n (cV _) hvc
       generalize (eE l h m n).1=L at*
       generalize (eE l h m n).2.1=H at*
       refine⟨_,vj h1 hsz b1,RV.gZ (Or.inr ⟨rfl,n,u,apk,hv,by omega,_,_,rfl,by omega,?_⟩)⟩
       rcases tD (H -L) with hz|hz
       ·grind
       ·refine Or.inr ⟨g,hg,?_⟩
        rw[aB (by omega)]
        simp[Addr.ka]
      grind
     grind
    grind
   ·rename_i n u n' u' xs hty
    split at he
    ·rename_i hc
     cases he
     simp only[bP] at hc
     have:=Ty.aE hc.1.1.1;subst this
     have:=dm hc.1.1.2;subst this
     have hc1:=jt hc.1.2
     have hc2:=jt hc.2
     obtain⟨te,h1,h2,h3⟩:=T.uU ht hty
     have hsz:=T.size h2 w
     rw[h3] at hsz
     obtain⟨b,o,cs,e,q1,q2,q3⟩:=RV.atom rfl hx
     simp at e;subst e
     obtain⟨hn,q3⟩:=q3
     obtain⟨mm,b1,b2,b3,b4,b5,b6⟩:=B false n n (cV _) hvc
     generalize (eE l h m n).1=L at*
     generalize (eE l h m n).2.1=H at*
     have hlen:(fy xs L H).length=H -L:=by simp[fy];omega
     refine⟨_,vj h1 hsz b1,RV.gZ (Or.inr ⟨rfl,_,_,by rw[hlen],by grind,by rw[hlen];exact cW (ju _ (by omega)) hc1,by grind,?_⟩)⟩
     rcases tD (H -L) with hz|hz
     ·grind
     ·obtain⟨cs',z1,z2⟩:=bO.part q2 q3 L (H -L)
      refine Or.inr ⟨b,o+L*u.size,cs',?_,q1,z1,z2⟩
      rw[aB (by omega)]
      simp[Addr.ka]
    grind
   ·rename_i s hty
    split at he
    ·cases he
     have h1:=T.strOf ht hty
     obtain⟨rfl,h2⟩:=RV.kr hx
     obtain⟨mm,b1,b2,b3,b4,b5,b6⟩:=B false s.length s.length (cV _) hvc
     have hvm:vm=none:=by
      cases vm with
      |none=>rfl
      |
       some v=>
       cases mx with
       |none=>trivial
       |some x=>cases x<;>first|trivial|(rename_i t y;cases t<;>simp[Fh] at em)
     subst hvm
     generalize (eE l h none s.length).1=L at*
     generalize (eE l h none s.length).2.1=H at*
     refine⟨.string ((⟨s.toArray⟩:ByteArray).extract L H),by simp[Instr.sliceAt,Instr.slice,underlying,h1,yf,b1],?_⟩
     have:(⟨s.toArray⟩:ByteArray).extract L H=⟨(fy s L H).toArray⟩:=by
      apply ByteArray.ext
      grind [ByteArray.data_extract,fy]
     grind [RV.str,fy]
    grind
   grind
  grind
 grind
end Go.Ax
namespace Go.Ax
def pO(G:dq)(d:Nat)(t:TypeId)(l c:Int):Option jv:=
 match G.at t with
 |
  some td=>match td.ty with
  | .slice bs u=>if u.pure then some ⟨.own d,[(d,some (.row td.e bs u (List.replicate l.toNat u.aH)))],[d],[vc (0≤l),vc (l≤c),vc (c*(bs:Int)≤aF)]⟩ else none
  |_=>none
 |none=>none
def pQ(G:dq)(d:Nat)(t:TypeId)(l c:Int):Option jv:=
 match G.at t with
 |
  some td=>match td.ty with
  |
   .slice bs (.slice bs2 t2)=>match G.at td.e with
   |some te=>if t2.pure&&Nat.blt 0 t2.size then some ⟨.own d,[(d,some (.eW td.e bs (.slice bs2 t2) (List.replicate l.toNat []) te.e none))],[d],[vc (0≤l),vc (l≤c),vc (c*(bs:Int)≤aF)]⟩ else none
   |none=>none
  |_=>none
 |none=>none
def rQ(G:dq)(d:Nat)(t:TypeId):AV→AV→Option jv
 |
  .val (.int _) l,.val (.int _) c=>match pQ G d t l c with
  |some r=>some r
  |none=>pO G d t l c
 |_,_=>none
theorem zC{w:World}{S:Nat→Prop}{u:Ty}{cs:List Value}{n m:Nat}(h:bO (Rel w S u) cs (List.replicate n u.aH))(hm:m≤n):bO (Rel w S u) (cs.take (m*u.size)) (List.replicate m u.aH):=by
 have:=bO.take (n:=u.size) (fun _ _ h=>Rel.len h) m h
 grind
theorem xS{P:Program}{G:dq}(T:cQ P G){gl:Ctx}{σ:St}{E:Env}{a:Act}{w:World}(h:dE gl σ E a w){d:Nat}{t:TypeId}{k k':IntKind}{l c:Int}{r:jv}
 (he:pO G d t l c=some r) (hvc:gm r.vc) (hfr:∀b∈r.fr,σ.fresh b):
 ∃v w' E',(Instr.makeSlice t (.int k l) (.int k' c)).run P w= .ok v w'∧dE gl {σ with hp:=bJ σ.hp r.hw} E' a w'∧RV E' w' r.v v∧Ext gl.md (cU σ.hp E) E w (cU (bJ σ.hp r.hw) E') E' w':=by
 unfold pO at he
 split at he
 ·rename_i td ht
  split at he
  ·rename_i bs u hty
   split at he
   ·rename_i hpure
    cases he
    obtain⟨v1,v2,v3,_⟩:=hvc
    obtain⟨te,ie,h1,h2,h3,h4,h5,h6,h7⟩:=T.eK ht hty
    obtain⟨i',d',h1i,_,hsz,_,z,hz,hz1,_⟩:=T.info h2
    rw[h4] at h1i;cases h1i
    rw[h3] at hsz hz1
    have hcm:(c:Int)≤aF:=Int.le_trans (by
     have:c*1≤c*(bs:Int):=Int.mul_le_mul_of_nonneg_left (by omega) (by omega)
     omega) v3
    have hb':(ie.bytes:Int)*c≤281474976710656:=by
     grind [aF]
    have apa:=run_make (P:=P) w t td.e ie z h1 h4 hz k k' l c v1 v2 hb' (by unfold aF at hcm;omega)
    rw[hsz] at apa
    have apD:=(jF (E:=E) (w:=w) hz1).2 hpure
    have hmade:=wM apD h6 c.toNat z.cells rfl
    have hcells:(madeCells z.cells (c.toNat*u.size))=((Array.range (c.toNat*u.size)).map (z.cells[· % z.cells.size]!)):=by
     trivial
    rw[hcells] at apa
    have hle:l.toNat≤c.toNat:=by omega
    have hrow:tJ E w (w.alloc (.cells ((Array.range (c.toNat*u.size)).map (z.cells[· % z.cells.size]!)) td.e)) td.e u (.slice (some ⟨w.heap.size,0,none⟩) l.toNat c.toNat) (some w.heap.size) (List.replicate l.toNat u.aH):=by
     refine Or.inr ⟨w.heap.size,c.toNat,_,rfl,by simp,heap_alloc_new w _,by grind,?_,by simp,?_⟩
     ·unfold aF at hcm;unfold maxLen;omega
     grind [zC]
    have kp:di E w (E.at d (some w.heap.size) (.slice (some ⟨w.heap.size,0,none⟩) l.toNat c.toNat) (.arr (List.replicate l.toNat u.aH).length u)) (w.alloc (.cells ((Array.range (c.toNat*u.size)).map (z.cells[· % z.cells.size]!)) td.e)):=
     ⟨fun b hb=>heap_alloc_old w _ b (h.hw.slt b hb),fun b hb=>hb⟩
    have hlb:l.toNat*bs≤aF:=by
     have:((l.toNat*bs:Nat):Int)≤c*(bs:Int):=by
      rw[Int.natCast_mul]
      exact Int.mul_le_mul_of_nonneg_right (by omega) (by omega)
     omega
    obtain⟨q1,q2⟩:=tJ.RB (bs:=bs) (d:=d) hrow h6 (by grind) (by grind) kp
    obtain⟨z1,z2⟩:=h.fresh (hfr d (by simp)) (w':=w.alloc _) (g:=some w.heap.size) rfl (Tp.r rfl rfl) rfl (by simp) (fun i hi=>heap_alloc_old w _ i hi) (fun i hi=>by grind) q1
    exact⟨_,_,_,apa,z1,q2,z2⟩
   grind
  grind
 grind
theorem xT{P:Program}{G:dq}(T:cQ P G){gl:Ctx}{σ:St}{E:Env}{a:Act}{w:World}(h:dE gl σ E a w){d:Nat}{t:TypeId}{k k':IntKind}{l c:Int}{r:jv}
 (he:pQ G d t l c=some r) (hvc:gm r.vc) (hfr:∀b∈r.fr,σ.fresh b):
 ∃v w' E',(Instr.makeSlice t (.int k l) (.int k' c)).run P w= .ok v w'∧dE gl {σ with hp:=bJ σ.hp r.hw} E' a w'∧RV E' w' r.v v∧Ext gl.md (cU σ.hp E) E w (cU (bJ σ.hp r.hw) E') E' w':=by
 unfold pQ at he
 split at he
 ·rename_i td ht
  split at he
  ·rename_i bs bs2 u hty
   split at he
   ·rename_i te hte
    split at he
    ·rename_i hpure
     cases he
     simp only[bP] at hpure
     have hpos:0<u.size:=by simp_all
     obtain⟨v1,v2,v3,_⟩:=hvc
     obtain⟨te',ie,h1,h2,h3,h4,h5,h6,h7⟩:=T.eK ht hty
     obtain⟨i',d',h1i,_,hsz,_,z,hz,hz1,_⟩:=T.info h2
     rw[h4] at h1i;cases h1i
     rw[h3] at hsz hz1
     have hcm:(c:Int)≤aF:=Int.le_trans (by
      have:c*1≤c*(bs:Int):=Int.mul_le_mul_of_nonneg_left (by omega) (by omega)
      omega) v3
     have hb':(ie.bytes:Int)*c≤281474976710656:=by
      grind [aF]
     have apa:=run_make (P:=P) w t td.e ie z h1 h4 hz k k' l c v1 v2 hb' (by unfold aF at hcm;omega)
     rw[hsz] at apa
     have hzc:z.cells= #[Value.slice none 0 0]:=by
      cases hl:z.cells.toList with
      |nil=>rw[hl] at hz1;trivial
      |
       cons y ys=>
       cases ys with
       |cons _ _=>rw[hl] at hz1;trivial
       |
        nil=>
        rw[hl] at hz1
        have hz1:isZero (.slice bs2 u) y=true:=hz1
        apply ni
        rw[hl]
        cases y with
        |
         slice a n m=>
         simp_all[isZero]
        |_=>trivial
     have hcells:(madeCells z.cells (c.toNat*(Ty.slice bs2 u).size))=((Array.range c.toNat).map (fun _=>Value.slice none 0 0)):=by
      rw[hzc]
      have:(Ty.slice bs2 u).size=1:=rfl
      simp_all[madeCells,Nat.mod_one]
     rw[hcells] at apa
     have hlb:l.toNat*bs≤aF:=by
      have:((l.toNat*bs:Nat):Int)≤c*(bs:Int):=by
       rw[Int.natCast_mul]
       exact Int.mul_le_mul_of_nonneg_right (by omega) (by omega)
      omega
     obtain⟨z1,z2⟩:=h.fresh (hfr d (by simp)) (w':=w.alloc (.cells ((Array.range c.toNat).map (fun _=>Value.slice none 0 0)) td.e)) (g:=some w.heap.size) (sv:=.slice (some ⟨w.heap.size,0,none⟩) l.toNat c.toNat) (t:=.arr l.toNat (.slice bs2 u))
      (k:=.eW td.e bs (.slice bs2 u) (List.replicate l.toNat []) te.e none) rfl (Tp.r rfl rfl) rfl (by simp) (fun i hi=>heap_alloc_old w _ i hi) (fun i hi=>by grind)
      (by
       refine⟨by simp[Env.at,zh],rfl,by grind,by grind,fun i v hv=>(by cases hv),w.heap.size,c.toNat,_,fun _=>none,by simp[Env.at],by unfold aF at hcm;unfold maxLen;omega,by simp[Env.at],heap_alloc_new w _,by simp,by grind,⟨fun i u hu=>(by cases hu),fun i j u hu=>(by cases hu)⟩,?_⟩
       intro i x hx
       rw[List.getElem?_replicate] at hx
       split at hx
       ·rename_i hi
        cases hx
        refine⟨.slice none 0 0,?_,fun v hv=>(by cases hv),fun _=>⟨by simp,by simp,hpos,none,0,rfl,cX _,Or.inl ⟨⟨rfl,rfl⟩,rfl,rfl⟩⟩⟩<;>grind
       grind)
     exact⟨_,_,_,apa,z1,RV.gZ (Or.inr ⟨rfl,by simp[RC,Env.at]⟩),z2⟩
    grind
   grind
  grind
 grind
theorem zD{P:Program}{G:dq}(T:cQ P G){gl:Ctx}{σ:St}{E:Env}{a:Act}{w:World}(h:dE gl σ E a w){d:Nat}{t:TypeId}{l c:AV}{vl vc:Value}(hl:RV E w l vl)(hc:RV E w c vc){r:jv}
 (he:rQ G d t l c=some r) (hvc:gm r.vc) (hfr:∀b∈r.fr,σ.fresh b):
 ∃v w' E',(Instr.makeSlice t vl vc).run P w= .ok v w'∧dE gl {σ with hp:=bJ σ.hp r.hw} E' a w'∧RV E' w' r.v v∧Ext gl.md (cU σ.hp E) E w (cU (bJ σ.hp r.hw) E') E' w':=by
 unfold rQ at he
 split at he
 ·obtain⟨rfl,_⟩:=RV.fw hl
  obtain⟨rfl,_⟩:=RV.fw hc
  split at he
  ·rename_i hp
   cases he
   exact xT T h hp hvc hfr
  ·exact xS T h he hvc hfr
 grind
def bytesOf(s:List UInt8):List Int:=s.map fun b=>(b.toNat:Int)
def strOf(xs:List Int):List UInt8:=xs.map fun n=>UInt8.ofNat n.toNat
def Dd(G:dq)(hb:Nat→Option aX)(s d:TypeId)(x:AV):Option AV:=
 match G.at s,G.at d with
 |
  some ts,some td=>match ts.ty,td.ty,x with
  | .str,.slice 1 (.int .u8),.val .str y=>(match G.at td.e with|some te=>if Ty.same te.ty (.int .u8) then some (.val (.slice 1 (.int .u8)) (bytesOf y)) else none|none=>none)
  | .str,.str,.val .str y=>some (.val .str y)
  | .slice 1 (.int .u8),.str,x=>(Nj hb 1 (.int .u8) x).map fun xs=>.val .str (strOf xs)
  |_,_,_=>none
 |_,_=>none
theorem dE.Wn{gl:Ctx}{σ:St}{E:Env}{a:Act}{w w':World}(h:dE gl σ E a w)(hos:w'.os=w.os)(hta:Tp gl.md w w')(hou:w'.output=w.output)(hsz:w'.heap.size=w.heap.size+1)(hold:∀i,i<w.heap.size→w'.heap[i]? =w.heap[i]?):
 dE gl σ {E with S:=fun i=>E.S i∨i=w.heap.size} a w'∧Ext gl.md (cU σ.hp E) E w (cU σ.hp {E with S:=fun i=>E.S i∨i=w.heap.size}) {E with S:=fun i=>E.S i∨i=w.heap.size} w':=by
 have kp:di E w {E with S:=fun i=>E.S i∨i=w.heap.size} w':=⟨fun b hb=>hold b (h.hw.slt b hb),fun b hb=>Or.inl hb⟩
 have hw:HW gl {E with S:=fun i=>E.S i∨i=w.heap.size} w' σ.hp:=by
  refine⟨fun b k hb=>RB.mono kp (fun _ _=>⟨rfl,rfl,rfl⟩) (fun g hg=>hold g (cU.below h.hw ⟨b,k,hb,hg⟩)) (fun _ _ h=>h) (h.hw.eJ b k hb),h.hw.gY,?_,?_,h.hw.kz kp,fun b k g hb hg=>by have:=h.hw.xi b k g hb hg;omega⟩
  ·rintro b k g hb hg (hs|hs)
   ·exact h.hw.fZ b k g hb hg hs
   ·have:=cU.below h.hw ⟨b,k,hb,hg⟩;omega
  ·rintro g (hs|hs)
   ·have:=h.hw.slt g hs;omega
   ·omega
 refine⟨h.carry kp (fun _ _=>⟨rfl,rfl,rfl⟩) hw,hos,hta,hou,by omega,fun g hg _=>hold g hg,fun g hg=>Or.inl hg,?_,fun g hg=>Or.inl hg,fun _ _=>⟨rfl,rfl,rfl⟩⟩<;>grind
theorem BA{w:World}{S:Nat→Prop}:∀(l:List UInt8),bO (Rel w S (.int .u8)) (l.map fun b=>Value.int .u8 (b.toNat:Int)) (bytesOf l)
 |[]=>rfl
 |b::l=>⟨[.int .u8 (b.toNat:Int)],l.map fun b=>Value.int .u8 (b.toNat:Int),rfl,⟨rfl,by
  have h1:IntKind.u8.min=0:=by decide
  have h2:IntKind.u8.max=255:=by decide
  have:=b.toNat_lt
  grind⟩,BA l⟩
theorem zE{w:World}{S:Nat→Prop}:∀{xs:List Int}{cs:List Value},bO (Rel w S (.int .u8)) cs xs→cs=(strOf xs).map fun b=>Value.int .u8 (b.toNat:Int)
 |[],cs,h=>h
 |
  x::xs,cs,⟨v1,v2,e,h1,h2⟩=>by
  obtain⟨h3,h4,h5⟩:=h1
  subst e;subst h3
  rw[zE h2]
  have a1:IntKind.u8.min=0:=by decide
  have a2:IntKind.u8.max=255:=by decide
  have h4:(0:Int)≤x:=by grind
  have h5:x≤255:=by grind
  have:((UInt8.ofNat x.toNat).toNat:Int)=x:=by
   grind [UInt8.toNat_ofNat']
  show _= [Value.int .u8 ((UInt8.ofNat x.toNat).toNat:Int)]++_
  rw[this];rfl
theorem H9{P:Program}{G:dq}(T:cQ P G){gl:Ctx}{σ:St}{E:Env}{a:Act}{w:World}(h:dE gl σ E a w){hb:Nat→Option aX}(hB:HB hb σ.hp){s d:TypeId}{x r:AV}{vx:Value}(hx:RV E w x vx)(he:Dd G hb s d x=some r):
 ∃v w' E',(convert s d vx).run P w= .ok v w'∧dE gl σ E' a w'∧RV E' w' r v∧Ext gl.md (cU σ.hp E) E w (cU σ.hp E') E' w':=by
 unfold Dd at he
 split at he
 ·rename_i ts td hs hd
  split at he
  ·rename_i y h1 h2
   split at he
   ·rename_i te hte
    split at he
    ·rename_i hsame
     cases he
     obtain⟨rfl,hy⟩:=RV.kr hx
     have u1:=T.strOf hs h1
     obtain⟨te',ie,u2,u3,u4,u5,u6,_⟩:=T.eK hd h2
     have u7:=T.intOf u3 u4
     have hr:=run_bytes_of_string (P:=P) w s d td.e ⟨y.toArray⟩ u1 u2 u7
     obtain⟨g1,g2⟩:=h.Wn (w':=w.drew.alloc (.cells (bytesRow ⟨y.toArray⟩ (grownCap w (ByteArray.size ⟨y.toArray⟩) 0 td.e)) td.e ((bytesRow ⟨y.toArray⟩ (grownCap w (ByteArray.size ⟨y.toArray⟩) 0 td.e)).size,(bytesRow ⟨y.toArray⟩ (grownCap w (ByteArray.size ⟨y.toArray⟩) 0 td.e)).size+1))) rfl (Tp.s rfl rfl) rfl (by simp) (fun i hi=>heap_alloc_old w.drew _ i hi)
     refine⟨_,_,_,hr,g1,?_,g2⟩
     have hge:=grownCap_ge w (ByteArray.size ⟨y.toArray⟩) 0 td.e
     have hl:(bytesOf y).length=y.length:=by simp[bytesOf]
     refine RV.gZ (Or.inr ⟨rfl,some ⟨w.heap.size,0,none⟩,_,by rw[hl,yf],by rw[hl,←yf];exact hge,by grind,by grind,Or.inr ⟨w.heap.size,0,y.map fun b=>Value.int .u8 (b.toNat:Int),rfl,Or.inr rfl,?_,BA y⟩⟩)
     intro j v hj
     rw[Addr.ka,ek]
     have hc:=World.cell?_alloc_mark w.drew (bytesRow ⟨y.toArray⟩ (grownCap w (ByteArray.size ⟨y.toArray⟩) 0 td.e)) td.e ((bytesRow ⟨y.toArray⟩ (grownCap w (ByteArray.size ⟨y.toArray⟩) 0 td.e)).size,(bytesRow ⟨y.toArray⟩ (grownCap w (ByteArray.size ⟨y.toArray⟩) 0 td.e)).size+1) j
     rw[show w.drew.heap.size=w.heap.size from rfl] at hc
     grind [bytesRow_at]
    grind
   grind
  ·rename_i y h1 h2
   cases he
   obtain⟨rfl,hy⟩:=RV.kr hx
   have u1:=T.strOf hs h1
   have u2:=T.strOf hd h2
   exact⟨_,w,E,by simp[convert,underlying,u1,u2],h,hx,Ext.refl _ _ _⟩
  ·rename_i h1 h2
   obtain⟨xs,hxs,rfl⟩:=Option.map_eq_some_iff.1 he
   obtain⟨ad,cap,rfl,q1,q2,q3,q4⟩:=Db h.hw hB hx hxs
   obtain⟨te,ie,u1,u2,u3,u4,u5,_⟩:=T.eK hs h1
   have u6:=T.intOf u2 u3
   have u7:=T.strOf hd h2
   have hl:(strOf xs).length=List.length xs:=by simp[strOf]
   refine⟨.string ⟨(strOf xs).toArray⟩,w,E,?_,h,RV.str (by grind),Ext.refl _ _ _⟩
   rcases q4 with q4|⟨g,o,cs,rfl,q5,q6⟩
   ·subst q4
    cases ad with
    |none=>simp[convert,underlying,u1,u6,u7,Conv.bytesToString,strOf];rfl
    |
     some ad=>
     grind [run_convert_bytes_back]
   ·have hcs:=zE q6
    have:=run_convert_bytes_back (P:=P) w s d ts.e ⟨g,o,none⟩ cap (strOf xs) u1 u6 u7 (fun j hj=>by
     refine q5 j _ ?_<;>grind)
    grind
  grind
 grind
end Go.Ax
namespace Go.Ax
def Nk{α:Type}(xs ys:List α)(lo:Nat):List α:=xs.take lo++ys++xs.drop (lo+ys.length)
theorem RL{α:Type}{xs ys:List α}{lo:Nat}(h:lo+ys.length≤xs.length):(Nk xs ys lo).length=xs.length:=by
 grind [Nk]
theorem bO.Nk{α:Type}{r:List Value→α→Prop}{n:Nat}(hn:∀vs x,r vs x→vs.length=n){xs ys:List α}{cs us:List Value}{lo:Nat}(hx:bO r cs xs)(hy:bO r us ys):
 bO r (cs.take (lo*n)++us++cs.drop ((lo+ys.length)*n)) (Ax.Nk xs ys lo):=
 bO.append (bO.append (bO.take hn lo hx) hy) (bO.drop hn (lo+ys.length) hx)
theorem Wo{α:Type}(cs us:List α)(o m a:Nat)(_h:o+m≤cs.length)(ha:a+us.length≤m):
 cs.take o++(((cs.drop o).take m).take a++us++((cs.drop o).take m).drop (a+us.length))++cs.drop (o+m)=cs.take (o+a)++us++cs.drop (o+a+us.length):=by
 have h1:((cs.drop o).take m).take a=(cs.drop o).take a:=by grind
 have h2:((cs.drop o).take m).drop (a+us.length)++cs.drop (o+m)=cs.drop (o+a+us.length):=by
  rw[qP,oc]
  have:cs.drop (o+m)=(cs.drop (o+(a+us.length))).drop (m -(a+us.length)):=by rw[oc];grind
  grind [oL]
 grind
theorem Nl{P:Program}{gl:Ctx}{σ:St}{E:Env}{a:Act}{w:World}(h:dE gl σ E a w){b:Nat}{tt:Ty}{v v':AV}(hb:σ.hp[b]? =some (some (.var tt v))){p:Path}(hv:(E.bt b).valid p){n:Nat}{u:Ty}{xs:List u.den}
 (hg:v.get p=some (.val (.arr n u) xs)) {ys:List u.den} {us:List Value} (hu:bO (Rel w E.S u) us ys) {lo:Nat} (hlo:lo+ys.length≤n) (hs:v.set p (.val (.arr n u) (Nk xs ys lo))=some v') (hc:v'.dY tt=true):
 ∃g w',E.g b=some g∧(storeCells ⟨g,(E.bt b).off p+lo*u.size,none⟩ us 0).run P w= .ok () w'∧dE gl {σ with hp:=σ.hp.set b (some (.var tt v'))} E a w'∧Ext gl.md (cU σ.hp E) E w (cU (σ.hp.set b (some (.var tt v'))) E) E w':=by
 have hk:=h.hw.eJ b _ hb
 obtain⟨h1,h2,g,c,e,h3,h4,h5⟩:=hk
 rw[h1] at hv ⊢
 obtain⟨s,q1,q2,q3,q4⟩:=AV.jn h5 h2 hv hg
 have hse:s= .arr n u:=(Ty.aE (by trivial)).symm
 subst hse
 obtain⟨hxl,hxr⟩:=q4
 have hul:us.length=ys.length*u.size:=bO.len (fun _ _ h=>Rel.len h) hu
 have hnew:RC E w (.val (.arr n u) (Nk xs ys lo)) ((((c.toList.drop (tt.off p)).take (n*u.size)).take (lo*u.size))++us++(((c.toList.drop (tt.off p)).take (n*u.size)).drop ((lo+ys.length)*u.size))):=
  ⟨by grind [RL],bO.Nk (fun _ _ h=>Rel.len h) hxr hu⟩
 have hnl:=RC.len hnew
 obtain⟨s',p1,p2,p3,p4⟩:=AV.pD hnew h5 h2 hv (fun s' hs'=>by rw[q1] at hs';cases hs';exact hnl) hs
 rw[q1] at p1;cases p1
 have hm:lo*u.size+us.length≤n*u.size:=by rw[hul,←iW];exact ju _ hlo
 have hsz:(Ty.arr n u).size=n*u.size:=rfl
 rw[hsz] at p3 p4
 have hcs:=Wo c.toList us (tt.off p) (n*u.size) (lo*u.size) p3 hm
 rw[show(lo+ys.length)*u.size=lo*u.size+us.length from by grind] at p4
 rw[hcs] at p4
 rw[tp] at p3
 have hst:=run_storeCells_at P g (tt.off p+lo*u.size) e us 0 c w h4 (by omega) (bO.Bz hu)
 have kp:di E w E (w.setRow g (c.toList.take (tt.off p+lo*u.size+0)++us++c.toList.drop (tt.off p+lo*u.size+0+us.length)).toArray):=
  ⟨fun i hi=>setRow_other w g i _ (fun e=>h.hw.oM b _ g hb h3 (e▸hi)),fun _ h=>h⟩
 have hrb:RB E (w.setRow g (c.toList.take (tt.off p+lo*u.size+0)++us++c.toList.drop (tt.off p+lo*u.size+0+us.length)).toArray) b (.var tt v'):=
  ⟨h1,hc,g,_,e,h3,setRow_heap w g c _ e _ h4,by simpa using RC.mono kp (fun _ _=>⟨rfl,rfl,rfl⟩) p4⟩
 have hw2:=h.hw.write hb (by simp) (fun i hi=>setRow_other w g i _ (fun e=>hi (by grind))) hrb
 refine⟨g,_,h3,hst,h.carry kp (fun _ _=>⟨rfl,rfl,rfl⟩) hw2,⟨rfl,Tp.r rfl rfl,rfl,by simp,?_,fun _ h=>h,fun _ h=>Or.inl h,fun i hi=>Or.inl (cU.rN hb hi),fun _ _=>⟨rfl,rfl,rfl⟩⟩⟩
 intro i hi ho
 exact setRow_other w g i _ (fun e=>ho ⟨b,_,hb,by rw[e];exact Or.inl h3⟩)
def JV(hb:Nat→Option aX)(b:Nat)(p:Path):Option ((_tt:Ty)×AV×(_n:Nat)×(u:Ty)×List u.den):=
 match hb b with
 |
  some (.var tt v)=>match v.get p with
  |some (.val (.arr n u) xs)=>some ⟨tt,v,n,u,xs⟩
  |_=>none
 |_=>none
def Ia(G:dq)(hb:Nat→Option aX)(t:TypeId)(x y:AV):Option jv:=
 match G.at t with
 |
  some td=>match td.ty,x with
  |
   .slice bs u,.mL b p lo len=>match JV hb b p with
   |
    some ⟨tt,v,n,u',xs⟩=>match Nj hb bs u' y with
    |
     some ys=>match v.set p (.val (.arr n u') (Nk xs (ys.take (min ys.length len)) lo)) with
     |some v'=>if Ty.same u u'&&v'.dY tt&&Nat.ble n aF then some ⟨mH (min ys.length len),[(b,some (.var tt v'))],[],[]⟩ else none
     |none=>none
    |none=>none
   |none=>none
  |_,_=>none
 |none=>none
theorem LW{P:Program}{G:dq}(T:cQ P G){gl:Ctx}{σ:St}{E:Env}{a:Act}{w:World}(h:dE gl σ E a w){hb:Nat→Option aX}(hB:HB hb σ.hp){t t2 ty:TypeId}{x y:AV}{vx vy:Value}(hx:RV E w x vx)(hy:RV E w y vy){r:jv}(he:Ia G hb t x y=some r):
 ∃v w',(Builtin.copy_ #[t,t2] ty #[vx,vy]).run P w= .ok v w'∧dE gl {σ with hp:=bJ σ.hp r.hw} E a w'∧RV E w' r.v v∧Ext gl.md (cU σ.hp E) E w (cU (bJ σ.hp r.hw) E) E w':=by
 unfold Ia at he
 split at he
 ·rename_i td ht
  split at he
  ·rename_i bs u b p lo len hty
   split at he
   ·rename_i tt v n u' xs apA
    split at he
    ·rename_i ys hys
     split at he
     ·rename_i v' bJ
      split at he
      ·rename_i hc
       cases he
       simp only[bP] at hc
       obtain⟨⟨c1,c2⟩,c3⟩:=hc
       have e:=Ty.aE c1;subst e
       unfold JV at apA
       split at apA
       ·rename_i tt0 v0 hbk
        split at apA
        ·rename_i n0 u0 xs0 apf
         cases apA
         obtain⟨te,ie,h1,h2,h3,h4,h5,h6,h7⟩:=T.eK ht hty
         obtain⟨i',d',h1i,_,hsz,_⟩:=T.info h2
         rw[h4] at h1i;cases h1i
         rw[h3] at hsz
         obtain⟨n1,t1,r1,r2,r3,ad,cap,rx,r4,r5⟩:=RV.atom rfl hx
         simp at rx;subst rx
         have hbt:E.bt b=tt:=(h.hw.eJ b _ (hB b _ hbk)).1
         have hr1:n1=n∧t1=u:=by
          obtain⟨q1,q2,g,c,e,q3,q4,q5⟩:=h.hw.eJ b _ (hB b _ hbk)
          rw[hbt] at r1 r2
          obtain⟨s,z1,z2,_⟩:=AV.jn q5 q2 r2 apf
          have hse:=(Ty.aE (by simpa[AV.dY] using z2)).symm
          rw[hse] at z1
          rw[z1] at r1;cases r1;exact⟨rfl,rfl⟩
         obtain⟨e1,e2⟩:=hr1;subst e1;subst e2
         obtain⟨ay,cy,ry,ry1,ry2,ry3,ry4⟩:=Db h.hw hB hy hys
         subst ry
         have hk:(ys.take (min ys.length len)).length=min ys.length len:=by grind
         have hnm:=jt c3
         rcases tD (min ys.length len) with hz|hz
         ·
          have hy0:ys.take (min ys.length len)= []:=ES (by omega)
          have hspl:Nk xs (ys.take (min ys.length len)) lo=xs:=by rw[hy0];simp[Nk]
          obtain⟨g,w',w1,w2,w3,w4⟩:=Nl (P:=P) h (hB b _ hbk) r2 apf (ys:=ys.take (min ys.length len)) (us:=[]) (by rw[hy0];rfl) (lo:=lo) (by omega) bJ c2
          have hw':w'=w:=by simp[storeCells] at w2;grind
          subst hw'
          have apa:(Builtin.copy_ #[t,t2] ty #[.slice ad len cap,.slice ay ys.length cy]).run P w'= .ok (goInt ((min ys.length len:Nat):Int)) w':=by
           have hz':Nat.min ys.length len=0:=hz
           have hf:∀ay:Option Addr,(Builtin.firstCells ie.size 0 (.slice ay ys.length cy)).run P w'= .ok #[] w':=by
            intro ay
            cases ay with
            |none=>trivial
            |some a=>grind [run_firstCells_some]
           have hz2:((min ys.length len:Nat):Int)=0:=by grind
           have hmin:Nat.min ys.length len=min ys.length len:=rfl
           simp only[hmin] at hz'
           rw[hz]
           simp[Builtin.copy_,underlying,h1,sizeOf,typeInfo,h4,Builtin.lenOf,hmin,hz,hf]
           cases ad<;>simp[storeCells]
          exact⟨_,w',apa,w3,RV.len (by omega),w4⟩
         ·have hys0:ys≠[]:=by grind
          rcases ry4 with ry4|⟨gy,oy,cs,ea,hr,apD⟩
          ·grind
          ·subst ea
           have hl0:len≠0:=by omega
           rcases r5 with r5|⟨gx,rg,ra⟩
           ·grind
           ·subst ra
            have hcl:(cs.take (min ys.length len*t1.size)).length=min ys.length len*ie.size:=by
             have:=bO.len (fun _ _ h=>Rel.len h) apD
             simp_all
            have hrel':=bO.take (n:=t1.size) (fun _ _ h=>Rel.len h) (min ys.length len) apD
            obtain⟨g,w',w1,w2,w3,w4⟩:=Nl (P:=P) h (hB b _ hbk) r2 apf hrel' (lo:=lo) (by omega) bJ c2
            rw[rg] at w1;cases w1
            have hf:=run_firstCells_some (P:=P) (w:=w) ie.size (min ys.length len) ⟨gy,oy,none⟩ ys.length cy (cs.take (min ys.length len*t1.size)) hcl (hr.take _)
            have apa:(Builtin.copy_ #[t,t2] ty #[.slice (some ⟨gx,(E.bt b).off p+lo*t1.size,none⟩) len cap,.slice (some ⟨gy,oy,none⟩) ys.length cy]).run P w= .ok (goInt ((min ys.length len:Nat):Int)) w':=by
             have hmin:Nat.min ys.length len=min ys.length len:=rfl
             simp_all[Builtin.copy_,underlying,sizeOf,typeInfo,Builtin.lenOf]
            exact⟨_,w',apa,w3,RV.len (by omega),w4⟩
        grind
       grind
      grind
     grind
    grind
   grind
  grind
 grind
def De(G:dq)(hb:Nat→Option aX)(t:TypeId)(x:AV):Option jv:=
 match G.at t with
 |
  some td=>match td.ty,x with
  |
   .slice _ u,.mL b p lo len=>match JV hb b p with
   |
    some ⟨tt,v,n,u',xs⟩=>match v.set p (.val (.arr n u') (Nk xs (List.replicate len u'.aH) lo)) with
    |some v'=>if Ty.same u u'&&v'.dY tt&&u'.pure then some ⟨.bot,[(b,some (.var tt v'))],[],[]⟩ else none
    |none=>none
   |none=>none
  |_,_=>none
 |none=>none
theorem Ib{P:Program}{G:dq}(T:cQ P G){gl:Ctx}{σ:St}{E:Env}{a:Act}{w:World}(h:dE gl σ E a w){hb:Nat→Option aX}(hB:HB hb σ.hp){t ty:TypeId}{x:AV}{vx:Value}(hx:RV E w x vx){r:jv}(he:De G hb t x=some r):
 ∃v w',(Builtin.clear_ #[t] ty #[vx]).run P w= .ok v w'∧dE gl {σ with hp:=bJ σ.hp r.hw} E a w'∧RV E w' r.v v∧Ext gl.md (cU σ.hp E) E w (cU (bJ σ.hp r.hw) E) E w':=by
 unfold De at he
 split at he
 ·rename_i td ht
  split at he
  ·rename_i bs u b p lo len hty
   split at he
   ·rename_i tt v n u' xs apA
    split at he
    ·rename_i v' bJ
     split at he
     ·rename_i hc
      cases he
      simp only[bP] at hc
      obtain⟨⟨c1,c2⟩,c3⟩:=hc
      have e:=Ty.aE c1;subst e
      unfold JV at apA
      split at apA
      ·rename_i tt0 v0 hbk
       split at apA
       ·rename_i n0 u0 xs0 apf
        cases apA
        obtain⟨te,ie,h1,h2,h3,h4,h5,h6,h7⟩:=T.eK ht hty
        obtain⟨i',d',h1i,_,hsz,_,z,hz,hz1,_⟩:=T.info h2
        rw[h4] at h1i;cases h1i
        rw[h3] at hsz hz1
        obtain⟨n1,t1,r1,r2,r3,ad,cap,rx,r4,r5⟩:=RV.atom rfl hx
        simp at rx;subst rx
        have hbt:E.bt b=tt:=(h.hw.eJ b _ (hB b _ hbk)).1
        have hr1:n1=n∧t1=u:=by
         obtain⟨q1,q2,g,c,e,q3,q4,q5⟩:=h.hw.eJ b _ (hB b _ hbk)
         rw[hbt] at r1 r2
         obtain⟨s,z1,z2,_⟩:=AV.jn q5 q2 r2 apf
         have hse:=(Ty.aE (by simpa[AV.dY] using z2)).symm
         rw[hse] at z1
         rw[z1] at r1;cases r1;exact⟨rfl,rfl⟩
        obtain⟨e1,e2⟩:=hr1;subst e1;subst e2
        have apD:=(jF (E:=E) (w:=w) hz1).2 c3
        have hzl:z.cells.size=t1.size:=by grind [tp,Rel.len]
        have hmade:=wM apD h6 len z.cells rfl
        obtain⟨g,w',w1,w2,w3,w4⟩:=Nl (P:=P) h (hB b _ hbk) r2 apf hmade (lo:=lo) (by grind) bJ c2
        refine⟨.tuple #[],w',?_,w3,trivial,w4⟩
        rcases tD len with hz0|hz0
        ·subst hz0
         have hw':w'=w:=by simp[storeCells] at w2;grind
         subst hw'
         cases ad<;>simp[Builtin.clear_,underlying,h1]
        ·rcases r5 with r5|⟨gx,rg,ra⟩
         ·omega
         ·subst ra
          rw[rg] at w1;cases w1
          have hzv:(zeroValue td.e).run P w= .ok z w:=by simp[zeroValue,typeInfo,h4,hz]
          obtain⟨m,rfl⟩:∃m,len=m+1:=⟨len -1,by omega⟩
          simp_all[Builtin.clear_,underlying,Builtin.zeroCells]
       grind
      grind
     grind
    grind
   grind
  grind
 grind
end Go.Ax
namespace Go.Ax
def Ex{α:Type}(f:α→α→Bool):List α→List α→Bool
 |[],[]=>true
 |x::xs,y::ys=>f x y&&Ex f xs ys
 |_,_=>false
def XQ{α:Type}(f:List α→List α→Bool):Option (List α)→Option (List α)→Bool
 |none,none=>true
 |some x,some y=>f x y
 |_,_=>false
theorem RN{α:Type}{f:List α→List α→Bool}(hf:∀x y,f x y=true↔x=y):∀(x y:Option (List α)),XQ f x y=true↔x=y
 |none,none=>by simp[XQ]
 |none,some _=>by simp[XQ]
 |some _,none=>by simp[XQ]
 |some x,some y=>by simp[XQ,hf]
def bM:(t:Ty)→t.den→t.den→Bool
 | .int _,x,y=>decide (@Eq Int x y)
 | .bool,x,y=>decide (@Eq Bool x y)
 | .str,x,y=>decide (@Eq (List UInt8) x y)
 | .arr _ t,x,y=>Ex (bM t) x y
 | .slice _ t,x,y=>Ex (bM t) x y
 | .pair a b,x,y=>bM a x.1 y.1&&bM b x.2 y.2
 | .unit,_,_=>true
 | .aY _,_,_=>true
 | .fns _,x,y=>decide (@Eq (List (Option Nat)) x y)
 | .map a b,x,y=>XQ (Ex fun p q=>bM a p.1 q.1&&bM b p.2 q.2) x y
theorem yh{α:Type}{f:α→α→Bool}(hf:∀x y,f x y=true↔x=y):∀(xs ys:List α),Ex f xs ys=true↔xs=ys
 |[],[]=>by simp[Ex]
 |[],_::_=>by simp[Ex]
 |_::_,[]=>by simp[Ex]
 |x::xs,y::ys=>by simp[Ex,hf,yh hf xs ys]
theorem dw:∀(t:Ty)(x y:t.den),bM t x y=true↔x=y:=by
 intro t
 induction t with
 |int k=>intro x y;simp[bM]
 |bool=>trivial
 |str=>intro x y;simp[bM]
 |arr n t ih=>intro x y;exact yh ih x y
 |slice n t ih=>intro x y;exact yh ih x y
 |pair a b ih1 ih2=>grind [bM]
 |unit=>intro x y;simp[bM]
 |aY k=>intro x y;simp[bM]
 |fns n=>intro x y;simp[bM]
 |map a b ih1 ih2=>intro x y;exact RN (yh (fun p q=>by grind)) x y
def LX(k:TypeId→Ty→Bool):List Field→Ty→Bool
 |[],.unit=>true
 |f::fs,.pair a b=> !(f.name== "_")&&k f.type a&&LX k fs b
 |_,_=>false
def mD(P:Program)(G:dq):Nat→TypeId→Ty→Bool
 |0,_,_=>false
 |
  n+1,t,ty=>match G.at t with
  |
   some td=>Ty.same td.ty ty&&(match ty with
   | .int _| .bool| .str=>true
   | .arr _ u=>mD P G n td.e u
   | .pair a b=> !P.stoodInHeld t&&(match P.underlying t with|some (.struct fs)=>LX (mD P G n) fs.toList (.pair a b)|_=>false)
   |_=>false)
  |none=>false
section
variable{P:Program} {G:dq} (T:cQ P G) {E:Env} {w:World}
include T
theorem sT{t:TypeId}{td:TD}(ht:G.at t=some td){x:td.ty.den}{cs:Array Value}{off:Nat}(h:Rel w E.S td.ty ((cs.toList.drop off).take td.ty.size) x)(hl:off+td.ty.size≤cs.size):
 ∃v,(part t cs off).run P w= .ok v w∧ew E w (.val td.ty x) v:=by
 by_cases ha:td.ty.isAgg=true
 ·refine⟨.agg (cs.extract off (off+td.ty.size)),by simp[part,T.isAgg ht,T.size ht,ha],Or.inl ⟨ha,_,rfl,?_⟩⟩
  rw[Array.toList_extract,List.extract_eq_take_drop,uR]
  exact h
 ·have ha':td.ty.isAgg=false:=by grind
  have h1:td.ty.size=1:=by cases h:td.ty<;>rw[h] at ha'<;>simp[Ty.isAgg] at ha'<;>rfl
  rw[h1] at h hl
  have hlt:off<cs.size:=by omega
  refine⟨cs[off],by simp[part,T.isAgg ht,ha',hlt],Or.inr ⟨ha',?_⟩⟩
  have:(cs.toList.drop off).take 1= [cs[off]]:=by
   grind [iA]
  rw[this] at h;exact h
def EqAt(P:Program)(E:Env)(w:World)(d:Nat)(t:TypeId)(ty:Ty):Prop:=
 ∀(x y:ty.den)(vx vy:Value),ew E w (.val ty x) vx→ew E w (.val ty y) vy→(Op.equalIn d t vx vy).run P w= .ok (bM ty x y) w
theorem xu{d:Nat}{k:TypeId→Ty→Bool}(hk:∀t td,G.at t=some td→k t td.ty=true→EqAt P E w d t td.ty){cx cy:Array Value}:
 ∀(fs:List Field)(ty:Ty)(off:Nat)(x y:ty.den),dS G fs off ty=true→LX k fs ty=true→off+ty.size≤cx.size→off+ty.size≤cy.size→
  Rel w E.S ty ((cx.toList.drop off).take ty.size) x→Rel w E.S ty ((cy.toList.drop off).take ty.size) y→(Op.eqFields d cx cy fs).run P w= .ok (bM ty x y) w
 |
  [],ty,off,x,y,hf,he,_,_,_,_=>by
  cases ty<;>simp[dS] at hf
  trivial
 |
  f::fs,ty,off,x,y,hf,he,hlx,hly,hx,hy=>by
  cases ty with
  |
   pair a b=>
   simp only[dS,bP] at hf
   obtain⟨⟨⟨h1,h2⟩,h3⟩,h4⟩:=hf
   simp only[LX,bP,lF,beq_eq_false_iff_ne] at he
   obtain⟨⟨e1,e2⟩,e3⟩:=he
   split at h1
   ·rename_i td htd
    have:=Ty.aE h1;subst this
    have h2:=dm h2
    simp only[Ty.size] at hlx hly hx hy
    obtain⟨v1,v2,ex,hx1,hx2⟩:=hx
    obtain⟨u1,u2,ey,hy1,hy2⟩:=hy
    have lx1:=Rel.len hx1
    have ly1:=Rel.len hy1
    have cut:∀(c:Array Value)(v1 v2:List Value),(c.toList.drop off).take (td.ty.size+b.size)=v1++v2→v1.length=td.ty.size→
     (c.toList.drop off).take td.ty.size=v1∧(c.toList.drop (off+td.ty.size)).take b.size=v2:=by
     intro c v1 v2 e hl
     constructor
     ·have:((c.toList.drop off).take (td.ty.size+b.size)).take td.ty.size=v1:=by grind
      grind
     ·have:((c.toList.drop off).take (td.ty.size+b.size)).drop td.ty.size=v2:=by grind
      rwa [qP,oc,uR] at this
    obtain⟨cx1,cx2⟩:=cut cx v1 v2 ex lx1
    obtain⟨cy1,cy2⟩:=cut cy u1 u2 ey ly1
    rw[←cx1] at hx1;rw[←cx2] at hx2;rw[←cy1] at hy1;rw[←cy2] at hy2
    obtain⟨vx,p1,p2⟩:=sT T htd hx1 (by omega)
    obtain⟨vy,p3,p4⟩:=sT T htd hy1 (by omega)
    have heq:=hk f.type td htd e2 x.1 y.1 vx vy p2 p4
    have hrest:=xu hk fs b (off+td.ty.size) x.2 y.2 h4 e3 (by omega) (by omega) hx2 hy2
    simp only[Op.eqFields,Sem.run_ite,aA e1,Sem.run_bind,h2,p1,p3,Result.andThen_ok,heq]
    cases hq:bM td.ty x.1 y.1 with
    |false=>simp[bM,hq]
    |true=>simp_all[bM]
   grind
  |_=>trivial
theorem zG{d:Nat}{e:TypeId}{te:TD}(hte:G.at e=some te)(hk:EqAt P E w d e te.ty){cx cy:Array Value}:
 ∀(n i:Nat)(xs ys:List te.ty.den),xs.length=n→ys.length=n→(i+n)*te.ty.size≤cx.size→(i+n)*te.ty.size≤cy.size→
  bO (Rel w E.S te.ty) ((cx.toList.drop (i*te.ty.size)).take (n*te.ty.size)) xs→bO (Rel w E.S te.ty) ((cy.toList.drop (i*te.ty.size)).take (n*te.ty.size)) ys→
  (Op.eqItems d e te.ty.size cx cy (List.range' i n)).run P w= .ok (Ex (bM te.ty) xs ys) w
 |
  0,i,xs,ys,hx,hy,_,_,_,_=>by
  simp_all[Op.eqItems,Ex]
 |
  n+1,i,x::xs,y::ys,hx,hy,hlx,hly,⟨v1,v2,ex,hx1,hx2⟩,⟨u1,u2,ey,hy1,hy2⟩=>by
  have lx1:=Rel.len hx1
  have ly1:=Rel.len hy1
  have hb:(i+(n+1))*te.ty.size=(i+1+n)*te.ty.size:=by grind
  have hb2:(i+1+n)*te.ty.size=i*te.ty.size+te.ty.size+n*te.ty.size:=by grind
  have cut:∀(c:Array Value)(v1 v2:List Value),(c.toList.drop (i*te.ty.size)).take ((n+1)*te.ty.size)=v1++v2→v1.length=te.ty.size→
   (c.toList.drop (i*te.ty.size)).take te.ty.size=v1∧(c.toList.drop ((i+1)*te.ty.size)).take (n*te.ty.size)=v2:=by
   intro c v1 v2 e hl
   have hn:(n+1)*te.ty.size=te.ty.size+n*te.ty.size:=by grind
   rw[hn] at e
   constructor
   ·have:((c.toList.drop (i*te.ty.size)).take (te.ty.size+n*te.ty.size)).take te.ty.size=v1:=by grind
    grind
   ·have:((c.toList.drop (i*te.ty.size)).take (te.ty.size+n*te.ty.size)).drop te.ty.size=v2:=by grind
    rwa [qP,oc,uR,show i*te.ty.size+te.ty.size=(i+1)*te.ty.size from by grind] at this
  obtain⟨cx1,cx2⟩:=cut cx v1 v2 ex lx1
  obtain⟨cy1,cy2⟩:=cut cy u1 u2 ey ly1
  rw[←cx1] at hx1;rw[←cx2] at hx2;rw[←cy1] at hy1;rw[←cy2] at hy2
  obtain⟨vx,p1,p2⟩:=sT T hte hx1 (by omega)
  obtain⟨vy,p3,p4⟩:=sT T hte hy1 (by omega)
  have heq:=hk x y vx vy p2 p4
  have hrest:=zG hte hk n (i+1) xs ys (by grind) (by grind) (by omega) (by omega) hx2 hy2
  rw[List.range'_succ]
  simp only[Op.eqItems,Sem.run_bind,p1,p3,Result.andThen_ok,heq]
  cases hq:bM te.ty x y with
  |false=>simp[Ex,hq]
  |true=>simp_all[Ex]
 |n+1,i,[],_,hx,_,_,_,_,_=>by grind
 |n+1,i,_::_,[],_,hy,_,_,_,_=>by grind
theorem yi(d:Nat):∀(n:Nat)(t:TypeId)(td:TD),G.at t=some td→mD P G n t td.ty=true→EqAt P E w (d+n) t td.ty
 |0,t,td,ht,h=>by simp[mD] at h
 |
  n+1,t,td,ht,h=>by
  have ih:=fun t td ht h=>yi d n t td ht h
  unfold mD at h
  rw[ht] at h
  simp only[bP] at h
  obtain⟨_,h⟩:=h
  intro x y vx vy hx hy
  rw[show d+(n+1)=(d+n)+1 from rfl]
  obtain⟨ty,te,te2⟩:=td
  simp only at h x y hx hy
  cases ty with
  |
   int k=>
   have hu:=T.intOf ht rfl
   obtain⟨rfl,_⟩:=RV.fw (RV.gZ hx)
   obtain⟨rfl,_⟩:=RV.fw (RV.gZ hy)
   rw[run_equalIn_int w (d+n) t k k _ _ hu]
   simp[bM];rfl
  |
   bool=>
   have hu:P.underlying t=some .bool:=by
    obtain⟨ii,dd,_,h1,_,h2,_⟩:=T.info ht
    have ao2:=fI h2
    rw[h1]
    cases hd:dd with
    |bool=>rfl
    |struct fs=>subst hd;simp[fR,Ty.isAgg] at ao2
    |array n e=>subst hd;simp[fR,Ty.isAgg] at ao2
    |slice e=>subst hd;simp[d7,Ty.same] at h2
    |map k e=>subst hd;simp[d7,Ty.same] at h2
    |_=>subst hd;simp[d7,Ty.same] at h2
   have:=RV.ib (RV.gZ hx);subst this
   have:=RV.ib (RV.gZ hy);subst this
   rw[run_equalIn_bool' w (d+n) t _ _ hu]
   simp[bM];rfl
  |
   str=>
   have hu:=T.strOf ht rfl
   obtain⟨rfl,_⟩:=RV.kr (RV.gZ hx)
   obtain⟨rfl,_⟩:=RV.kr (RV.gZ hy)
   rw[run_equalIn_string w (d+n) t _ _ hu]
   have:∀(a b:List UInt8),(a==b)=decide (a=b):=fun a b=>by
    by_cases h:a=b
    ·subst h;simp
    ·simp[h]
   simp only[ByteArray.toList_mk,bM]
   exact congrArg (fun b=>Result.ok b w) (this x y)
  |
   arr m u=>
   obtain⟨tde,h1,h2,h3⟩:=T.uU ht rfl
   simp only at h h1 h2 h3
   subst h3
   have hk:=ih te tde h2 h
   obtain⟨ie,_,hi,_,hsz,_⟩:=T.info h2
   rcases hx with⟨_,cx,rfl,hx1,hx2⟩|⟨hx,_⟩
   ·rcases hy with⟨_,cy,rfl,hy1,hy2⟩|⟨hy,_⟩
    ·rw[run_equalIn_array w (d+n) cx cy h1 hi]
     have hcell:P.cellsOf te=tde.ty.size:=by simp[Program.cellsOf,hi,hsz]
     rw[hcell,List.range_eq_range']
     have lx:=bO.len (n:=tde.ty.size) (fun _ _ h=>Rel.len h) hx2
     have ly:=bO.len (n:=tde.ty.size) (fun _ _ h=>Rel.len h) hy2
     rw[tp] at lx ly
     rw[hx1] at lx;rw[hy1] at ly
     refine zG T h2 hk m 0 x y hx1 hy1 (by rw[ek,lx];exact cV _) (by rw[ek,ly];exact cV _) ?_ ?_
     ·simp only[Nat.zero_mul,fN];rw[j6 (by simp[lx])];exact hx2
     ·simp only[Nat.zero_mul,fN];rw[j6 (by simp[ly])];exact hy2
    ·simp[AV.isAgg,Ty.isAgg] at hy
   ·simp[AV.isAgg,Ty.isAgg] at hx
  |
   pair a b=>
   obtain⟨fs,h1,h2⟩:=T.structOf ht rfl
   simp only[bP,h1] at h
   obtain⟨e1,e2⟩:=h
   have hfo:P.fieldsOf t=fs:=by simp[Program.fieldsOf,h1]
   rcases hx with⟨_,cx,rfl,hx⟩|⟨hx,_⟩
   ·rcases hy with⟨_,cy,rfl,hy⟩|⟨hy,_⟩
    ·rw[run_equalIn_struct w (d+n) t cx cy (by rw[hfo];exact h1) (by simpa using e1),hfo]
     have lx:=Rel.len hx
     have ly:=Rel.len hy
     rw[tp] at lx ly
     refine xu T ih fs.toList (.pair a b) 0 x y h2 e2 (by omega) (by omega) ?_ ?_
     ·rw[fN,j6 (by simp[lx])];exact hx
     ·rw[fN,j6 (by simp[ly])];exact hy
    ·simp[AV.isAgg,Ty.isAgg] at hy
   ·simp[AV.isAgg,Ty.isAgg] at hx
  |_=>simp at h
end
def Wp(P:Program)(G:dq)(op:BinOp)(t:TypeId):AV→AV→Option (AV×List VC)
 |
  .val u x,.val v y=>match G.at t with
  |
   some td=>if h:Ty.same u td.ty&&Ty.same v td.ty&&td.ty.isAgg then(match op with
   | .eql=>some (.val .bool (bM td.ty (Ty.aE (by simp at h;exact h.1.1)▸x) (Ty.aE (by simp at h;exact h.1.2)▸y)),[vc (mD P G 40 t td.ty=true),vc (P.eqGuardType P.depth t=false)])
   | .neq=>some (.val .bool (!bM td.ty (Ty.aE (by simp at h;exact h.1.1)▸x) (Ty.aE (by simp at h;exact h.1.2)▸y)),[vc (mD P G 40 t td.ty=true),vc (P.eqGuardType P.depth t=false)])
   |_=>none) else none
  |none=>none
 |_,_=>none
theorem RQ{P:Program}{G:dq}(T:cQ P G){E:Env}{w:World}{op:BinOp}{t:TypeId}{x y:AV}{vx vy:Value}{ox oy:Operand}{r:AV}{vc:List VC}(hx:RV E w x vx)(hy:RV E w y vy)(h:Wp P G op t x y=some (r,vc))(hvc:gm vc):
 (eqGuard op t ox oy vx vy).run P w= .ok () w∧∃v,(binOp op t vx vy).run P w= .ok v w∧RV E w r v:=by
 unfold Wp at h
 split at h
 ·rename_i u x v y
  split at h
  ·rename_i td ht
   split at h
   ·rename_i hc
    simp only[bP] at hc
    have e1:=Ty.aE hc.1.1
    have e2:=Ty.aE hc.1.2
    subst e1;subst e2
    have hx0:ew E w (.val td.ty x) vx:=RV.mN rfl hx
    have hy0:ew E w (.val td.ty y) vy:=RV.mN rfl hy
    have main:mD P G 40 t td.ty=true→P.eqGuardType P.depth t=false→∃cx cy,vx= .agg cx∧vy= .agg cy∧(Op.equalIn 10000 t vx vy).run P w= .ok (bM td.ty x y) w:=by
     intro q1 _
     have:=yi T (E:=E) (w:=w) 9960 40 t td ht q1 x y vx vy hx0 hy0
     rcases hx0 with⟨_,cx,ex,_⟩|⟨hq,_⟩
     ·rcases hy0 with⟨_,cy,ey,_⟩|⟨hq,_⟩
      ·grind
      ·simp[AV.isAgg,hc.2] at hq
     ·simp[AV.isAgg,hc.2] at hq
    split at h
    ·cases h
     obtain⟨q1,q2,_⟩:=hvc
     obtain⟨cx,cy,rfl,rfl,q3⟩:=main q1 q2
     simp_all[run_eqGuard_agg,run_eql_struct,RV.bool]
    ·cases h
     obtain⟨q1,q2,_⟩:=hvc
     obtain⟨cx,cy,rfl,rfl,q3⟩:=main q1 q2
     simp_all[run_eqGuard_agg,run_neq_struct,RV.bool]
    grind
   grind
  grind
 grind
end Go.Ax
namespace Go.Ax
def gN{α:Type}(kt:Ty)(k:kt.den):List (kt.den×α)→Nat→Option (Nat×α)
 |[],_=>none
 |e::es,i=>if bM kt k e.1 then some (i,e.2) else gN kt k es (i+1)
def ep{α:Type}(kt:Ty)(k:kt.den):List (kt.den×α)→Bool
 |[]=>false
 |e::es=>bM kt k e.1||ep kt k es
def aO(kt vt:Ty)(k:kt.den):List (kt.den×vt.den)→vt.den
 |[]=>vt.aH
 |e::es=>if bM kt k e.1 then e.2 else aO kt vt k es
def bK{α:Type}(kt:Ty)(k:kt.den)(v:α):List (kt.den×α)→List (kt.den×α)
 |[]=>[(k,v)]
 |e::es=>if bM kt k e.1 then(k,v)::es else e::bK kt k v es
def Ty.keyed:Ty→Bool
 | .int _| .bool| .str| .unit=>true
 | .arr _ t=>t.keyed
 | .pair a b=>a.keyed&&b.keyed
 |_=>false
theorem Nm{α:Type}{f:α→α→Bool}(h:∀x y,f x y=true↔x=y):∀(xs ys:List α),Ex f xs ys=true↔xs=ys
 |[],[]=>by simp[Ex]
 |[],_::_=>by simp[Ex]
 |_::_,[]=>by simp[Ex]
 |x::xs,y::ys=>by simp[Ex,h,Nm h xs ys]
theorem dT:∀{t:Ty},t.keyed=true→∀(x y:t.den),bM t x y=true↔x=y
 | .int _,_,x,y=>by simp[bM]
 | .bool,_,x,y=>by simp[bM]
 | .str,_,x,y=>by simp[bM]
 | .arr _ t,h,x,y=>Nm (fun a b=>dT (t:=t) h a b) x y
 |
  .pair a b,h,x,y=>by
  simp only[Ty.keyed,bP] at h
  simp only[bM,bP,dT h.1,dT h.2]
  grind
 | .unit,_,x,y=>by simp[bM]
 | .slice _ _,h,_,_=>by trivial
 | .aY _,h,_,_=>by trivial
 | .fns _,h,_,_=>by trivial
theorem bO.fn{α:Type}{r:List Value→α→Prop}{n:Nat}(hn:∀vs x,r vs x→vs.length=n)(h:∀vs us x,r vs x→r us x→vs=us):∀{xs:List α}{vs us:List Value},bO r vs xs→bO r us xs→vs=us
 |[],vs,us,h1,h2=>by simp[bO] at h1 h2;grind
 |x::xs,_,_,⟨a1,a2,e1,r1,r2⟩,⟨b1,b2,e2,s1,s2⟩=>by rw[e1,e2,h _ _ x r1 s1,bO.fn hn h r2 s2]
theorem Rel.fn{w:World}{S:Nat→Prop}:∀{t:Ty},t.keyed=true→∀(vs us:List Value)(x:t.den),Rel w S t vs x→Rel w S t us x→vs=us
 | .int _,_,vs,us,x,h1,h2=>by rw[h1.1,h2.1]
 | .bool,_,vs,us,x,h1,h2=>by simp only[Rel] at h1 h2;grind
 | .str,_,vs,us,x,h1,h2=>by rw[h1.1,h2.1]
 | .arr _ t,h,vs,us,x,h1,h2=>bO.fn (fun _ _=>Rel.len) (fun a b y=>Rel.fn (t:=t) h a b y) h1.2 h2.2
 |
  .pair a b,h,vs,us,x,⟨a1,a2,e1,r1,r2⟩,⟨b1,b2,e2,s1,s2⟩=>by
  simp only[Ty.keyed,bP] at h
  rw[e1,e2,Rel.fn h.1 _ _ _ r1 s1,Rel.fn h.2 _ _ _ r2 s2]
 | .unit,_,vs,us,x,h1,h2=>by simp only[Rel] at h1 h2;grind
 | .slice _ _,h,_,_,_,_,_=>by trivial
 | .aY _,h,_,_,_,_,_=>by trivial
 | .fns _,h,_,_,_,_,_=>by trivial
def Value.bare:Value→Bool
 | .int _ _| .bool _| .string _=>true
 |_=>false
theorem Rel.bare{w:World}{S:Nat→Prop}:∀{t:Ty},t.keyed=true→∀(vs:List Value)(x:t.den),Rel w S t vs x→∀v∈vs,Value.bare v=true
 | .int _,_,vs,x,h,v,hv=>by rw[h.1] at hv;simp at hv;subst hv;rfl
 | .bool,_,vs,x,h,v,hv=>by simp only[Rel] at h;rw[h] at hv;simp at hv;subst hv;rfl
 | .str,_,vs,x,h,v,hv=>by rw[h.1] at hv;simp at hv;subst hv;rfl
 |
  .arr _ t,h,vs,x,h1,v,hv=>by
  have key:∀(xs:List t.den)(vs:List Value),bO (Rel w S t) vs xs→∀v∈vs,Value.bare v=true:=by
   intro xs
   induction xs with
   |nil=>intro vs h v hv;simp[bO] at h;subst h;cases hv
   |
    cons y ys ih=>
    rintro vs ⟨a1,a2,e1,r1,r2⟩ v hv
    rw[e1] at hv
    rcases List.mem_append.1 hv with hv|hv
    ·exact Rel.bare (t:=t) h _ _ r1 v hv
    ·exact ih _ r2 v hv
  exact key x vs h1.2 v hv
 |
  .pair a b,h,vs,x,⟨a1,a2,e1,r1,r2⟩,v,hv=>by
  simp only[Ty.keyed,bP] at h
  rw[e1] at hv
  rcases List.mem_append.1 hv with hv|hv
  ·exact Rel.bare h.1 _ _ r1 v hv
  ·exact Rel.bare h.2 _ _ r2 v hv
 | .unit,_,vs,x,h,v,hv=>by grind [Rel]
 | .slice _ _,h,_,_,_,_,_=>by trivial
 | .aY _,h,_,_,_,_,_=>by trivial
 | .fns _,h,_,_,_,_,_=>by trivial
theorem tK{n:Nat}{v:Value}(h:Value.bare v=true):Instr.sameBits n v v=true:=by
 cases v with
 |int k m=>cases n<;>simp[Instr.sameBits]
 |bool b=>cases n<;>simp[Instr.sameBits]
 |
  string s=>
  have:(s==s)=true:=by
   have:(s.data==s.data)=true:=by simp
   trivial
  grind [Instr.sameBits]
 |_=>trivial
theorem ew.fn{E:Env}{w:World}{t:Ty}(hk:t.keyed=true){x:t.den}{v u:Value}(hv:ew E w (.val t x) v)(hu:ew E w (.val t x) u):v=u∧Instr.sameBits 10000 v v=true:=by
 rcases hv with⟨h1,cs,e,h2⟩|⟨h1,h2⟩
 ·rcases hu with⟨k1,ds,e',k2⟩|⟨k1,_⟩
  ·have:=Rel.fn hk _ _ _ h2 k2
   have e2:cs=ds:=ni this
   subst e;subst e';subst e2
   refine⟨rfl,?_⟩
   show Instr.sameBits (9999+1) _ _=true
   simp only[Instr.sameBits,beq_self_eq_true,Bool.true_and,ng]
   intro p hp
   have hb:=Rel.bare hk _ _ h2
   have:p.1=p.2∧p.1∈cs.toList:=by
    have key:∀(l:List Value)(p:Value×Value),p∈l.zip l→p.1=p.2∧p.1∈l:=by
     intro l
     induction l with
     |nil=>intro p hp;cases hp
     |
      cons x l ih=>
      intro p hp
      rcases List.mem_cons.1 hp with hp|hp
      ·subst hp;simp
      ·exact⟨(ih p hp).1,dH _ (ih p hp).2⟩
    exact key _ p hp
   obtain⟨p1,p2⟩:=p
   simp only at this ⊢
   rw[←this.1]
   exact tK (hb p1 this.2)
  ·rw[h1] at k1;cases k1
 ·rcases hu with⟨k1,_⟩|⟨k1,k2⟩
  ·rw[h1] at k1;cases k1
  ·have:=Rel.fn hk _ _ _ h2 k2
   simp at this
   exact⟨this,tK (Rel.bare hk _ _ h2 v (by simp))⟩
section
variable{P:Program} {G:dq} (T:cQ P G) {E:Env} {w:World}
include T
theorem mu(em:Bool)(d:Nat):∀(n:Nat)(t:TypeId)(td:TD),G.at t=some td→mD P G n t td.ty=true→∀(x:td.ty.den)(v:Value),ew E w (.val td.ty x) v→(Instr.checkKey em (d+n) t v).run P w= .ok () w
 |0,t,td,ht,h=>by trivial
 |
  n+1,t,td,ht,h=>by
  have ih:=fun t td ht h=>mu em d n t td ht h
  unfold mD at h
  rw[ht] at h
  simp only[bP] at h
  obtain⟨_,h⟩:=h
  intro x v hx
  rw[show d+(n+1)=(d+n)+1 from rfl,Instr.checkKey]
  obtain⟨ii,dd,_,hu,_,hdo,_⟩:=T.info ht
  obtain⟨ty,te,te2⟩:=td
  simp only at h x hx hdo
  cases ty with
  |
   int k=>
   have hu:=T.intOf ht rfl
   simp[underlying,hu]
  |
   bool=>
   cases dd<;>simp[d7,Ty.same] at hdo
   ·simp[underlying,hu]
   grind [dS]
  |
   str=>
   have hu:=T.strOf ht rfl
   simp[underlying,hu]
  |
   arr m u=>
   obtain⟨tde,h1,h2,h3⟩:=T.uU ht rfl
   simp only at h h1 h2 h3
   subst h3
   obtain⟨ie,_,hi,_,hsz,_⟩:=T.info h2
   rcases hx with⟨_,cx,rfl,hx1,hx2⟩|⟨hx,_⟩
   ·simp only[Sem.run_bind,run_underlying h1,Result.andThen_ok,Std.Legacy.Range.forIn_eq_forIn_range',Std.Legacy.Range.size,Nat.sub_zero,Nat.add_one_sub_one,Nat.div_one]
    have lx:=bO.len (n:=tde.ty.size) (fun _ _ h=>Rel.len h) hx2
    rw[tp,hx1] at lx
    have each:∀j,j<m→∃a,(part te cx (j*tde.ty.size)).run P w= .ok a w∧(Instr.checkKey em (d+n) te a).run P w= .ok () w:=by
     intro j hj
     have hr:=bO.get (fun _ _=>Rel.len) tde.ty.aH j hx2 (by omega)
     have hb:(j+1)*tde.ty.size≤m*tde.ty.size:=ju _ hj
     rw[iW,Nat.one_mul] at hb
     grind [sT]
    have key:∀(is:List Nat),(∀j∈is,j<m)→(forIn is PUnit.unit fun i _=>do
     Instr.checkKey em (d+n) te (←part te cx (i*(←sizeOf te)))
     pure (ForInStep.yield PUnit.unit):Sem PUnit).run P w= .ok () w:=by
     intro is
     induction is with
     |nil=>simp_all
     |
      cons j is ihl=>
      intro hj
      obtain⟨a,p1,p2⟩:=each j (hj j (by simp))
      simp only[List.forIn_cons,Sem.run_bind,T.size h2,Result.andThen_ok,p1,p2,Sem.run_pure]
      grind
    simp_all
   trivial
  |
   pair a b=>
   obtain⟨fs,h1,h2⟩:=T.structOf ht rfl
   simp only[bP,h1] at h
   obtain⟨e1,e2⟩:=h
   rcases hx with⟨_,cx,rfl,hx⟩|⟨hx,_⟩
   ·simp only[Sem.run_bind,run_underlying h1,Result.andThen_ok]
    rw[←Array.forIn_toList]
    have lx:=Rel.len hx
    rw[tp] at lx
    have key:∀(fs:List Field)(ty:Ty)(off:Nat)(x:ty.den),dS G fs off ty=true→LX (mD P G n) fs ty=true→off+ty.size≤cx.size→Rel w E.S ty ((cx.toList.drop off).take ty.size) x→
     (forIn fs PUnit.unit fun f _=>if f.name≠ "_" then(do
      let v ←part f.type cx f.offset
      Instr.checkKey em (d+n) f.type v
      pure (ForInStep.yield PUnit.unit)) else pure (ForInStep.yield PUnit.unit):Sem PUnit).run P w= .ok () w:=by
     intro fs
     induction fs with
     |nil=>simp_all
     |
      cons f fs ihl=>
      intro ty off x hf he hlx hx
      cases ty with
      |
       pair a b=>
       simp only[dS,bP] at hf
       obtain⟨⟨⟨g1,g2⟩,g3⟩,g4⟩:=hf
       simp only[LX,bP,lF,beq_eq_false_iff_ne] at he
       obtain⟨⟨q1,q2⟩,q3⟩:=he
       split at g1
       ·rename_i td htd
        have:=Ty.aE g1;subst this
        have g2:=dm g2
        simp only[Ty.size] at hlx hx
        obtain⟨v1,v2,ex,hx1,hx2⟩:=hx
        have lx1:=Rel.len hx1
        have c1:(cx.toList.drop off).take td.ty.size=v1:=by
         have:((cx.toList.drop off).take (td.ty.size+b.size)).take td.ty.size=v1:=by grind
         grind
        have c2:(cx.toList.drop (off+td.ty.size)).take b.size=v2:=by
         have:((cx.toList.drop off).take (td.ty.size+b.size)).drop td.ty.size=v2:=by grind
         rwa [qP,oc,uR] at this
        rw[←c1] at hx1;rw[←c2] at hx2
        obtain⟨a,p1,p2⟩:=sT T htd hx1 (by omega)
        have p3:=ih f.type td htd q2 x.1 a p2
        have hrest:=ihl b (off+td.ty.size) x.2 g4 q3 (by omega) hx2
        simp_all
       grind
      |_=>trivial
    rw[key fs.toList (.pair a b) 0 x h2 e2 (by omega) (by rw[fN,j6 (by simp[lx])];exact hx)];rfl
   trivial
  |_=>simp at h
end
end Go.Ax
namespace Go.Ax
section
variable{P:Program} {G:dq} (T:cQ P G) {E:Env} {w:World}
def Nn(E:Env)(w:World)(vt:Ty):Option (Nat×vt.den)→Option (Nat×Value)→Prop
 |none,none=>True
 |some x,some y=>x.1=y.1∧ew E w (.val vt x.2) y.2
 |_,_=>False
include T in
theorem tL{t:TypeId}{td:TD}(ht:G.at t=some td)(he:mD P G 40 t td.ty=true){vt:Ty}{k:td.ty.den}{v:Value}(hv:ew E w (.val td.ty k) v):∀{l:List MapEntry}{es:List (td.ty.den×vt.den)}(i:Nat),RM E w td.ty vt l es→
 ∃r,(Instr.findAsking t v l i).run P w= .ok r w∧Nn E w vt (gN td.ty k es i) r
 |[],[],i,_=>⟨none,by trivial,trivial⟩
 |[],_::_,_,h=>h.elim
 |_::_,[],_,h=>h.elim
 |
  e::l,x::es,i,⟨h1,h2,h3⟩=>by
  have hq:(Op.equal t v e.key).run P w= .ok (bM td.ty k x.1) w:=yi T (E:=E) (w:=w) (Op.maxDepth -40) 40 t td ht he k x.1 v e.key hv h1
  cases hb:bM td.ty k x.1 with
  |true=>exact⟨some (i,e.val),by simp[Instr.findAsking,hq,hb],by simp only[gN,hb,cC];trivial⟩
  |
   false=>
   simp_all[tL,Instr.findAsking,gN]
theorem pS{d:TypeDesc}{kt:Ty}{x y:kt.den}{v u:Value}{b:Bool}(hv:ew E w (.val kt x) v)(hu:ew E w (.val kt y) u)(h:Instr.sameNow d v u=some b):b=bM kt x y:=by
 cases kt with
 |
  int k=>
  obtain⟨rfl,_⟩:=RV.fw (RV.gZ hv)
  obtain⟨rfl,_⟩:=RV.fw (RV.gZ hu)
  cases d<;>simp[Instr.sameNow] at h
  subst h;trivial
 |
  bool=>
  have:=RV.ib (RV.gZ hv);subst this
  have:=RV.ib (RV.gZ hu);subst this
  cases d<;>simp[Instr.sameNow] at h
  subst h;trivial
 |
  str=>
  obtain⟨rfl,_⟩:=RV.kr (RV.gZ hv)
  obtain⟨rfl,_⟩:=RV.kr (RV.gZ hu)
  cases d<;>simp[Instr.sameNow] at h
  subst h
  have:∀(a b:List UInt8),((⟨a.toArray⟩:ByteArray)==⟨b.toArray⟩)=decide (a=b):=fun a b=>by
   have e1:((⟨a.toArray⟩:ByteArray)==⟨b.toArray⟩)=(a.toArray==b.toArray):=rfl
   grind
  simp only[bM]
  grind
 |
  _=>
  rcases hv with⟨h1,cs,e,_⟩|⟨h1,h2⟩
  ·subst e;cases d<;>simp[Instr.sameNow] at h
  ·first
    |(simp[AV.isAgg,Ty.isAgg] at h1;done)
    |(simp only[RC,Rel] at h2;obtain⟨a,c,e,_⟩:=h2;simp at e;subst e;cases d<;>simp[Instr.sameNow] at h;done)
    |(simp only[RC,Rel] at h2;obtain⟨a,e,_⟩:=h2;simp at e;subst e;cases d<;>simp[Instr.sameNow] at h;done)
    |exact h2.elim
theorem zH{d:TypeDesc}{kt vt:Ty}{k:kt.den}{v:Value}(hv:ew E w (.val kt k) v):∀{l:List MapEntry}{es:List (kt.den×vt.den)}(i:Nat){r:Option (Nat×Value)},RM E w kt vt l es→Instr.findNow d v l i=some r→Nn E w vt (gN kt k es i) r
 |[],[],i,r,_,h=>by simp[Instr.findNow] at h;subst h;trivial
 |[],_::_,_,_,h,_=>h.elim
 |_::_,[],_,_,h,_=>h.elim
 |
  e::l,x::es,i,r,⟨h1,h2,h3⟩,h=>by
  simp only[Instr.findNow] at h
  split at h
  ·rename_i hs
   have:=pS hv h1 hs
   cases h
   simp only[gN,←this,cC];exact⟨rfl,h2⟩
  ·rename_i hs
   have:=pS hv h1 hs
   simp only[gN,←this,dv,dc]
   exact zH hv (i+1) h3 h
  ·cases h
include T in
theorem zJ{t:TypeId}{td:TD}(ht:G.at t=some td)(he:mD P G 40 t td.ty=true){vt:Ty}{k:td.ty.den}{v:Value}(hv:ew E w (.val td.ty k) v){l:List MapEntry}{es:List (td.ty.den×vt.den)}(h:RM E w td.ty vt l es):
 ∃r,(Instr.findKey t v l).run P w= .ok r w∧Nn E w vt (gN td.ty k es 0) r:=by
 obtain⟨ii,dd,_,hu,_⟩:=T.info ht
 unfold Instr.findKey
 simp only[Sem.run_bind,run_underlying hu,Result.andThen_ok]
 split
 ·rename_i r hr
  exact⟨r,rfl,zH hv 0 h hr⟩
 ·exact tL T ht he hv 0 h
end
theorem BB{vt kt:Ty}{k:kt.den}:∀{es:List (kt.den×vt.den)}{i:Nat},(gN kt k es i).map (·.2)=if ep kt k es then some (aO kt vt k es) else none
 |[],_=>rfl
 |
  e::es,i=>by
  simp only[gN,ep,aO]
  by_cases hb:bM kt k e.1=true
  ·simp[hb]
  simp_all[BB]
theorem Fj{α:Type}{kt:Ty}{k:kt.den}:∀{es:List (kt.den×α)}{i j:Nat}{y:α},gN kt k es i=some (j,y)→i≤j
 |[],_,_,_,h=>by cases h
 |
  e::es,i,j,y,h=>by
  simp only[gN] at h
  split at h
  ·grind
  ·exact Nat.le_of_succ_le (Fj h)
theorem RM.aaj{E:Env}{w:World}{kt vt:Ty}{k:kt.den}{y:vt.den}{v u:Value}(hk:kt.keyed=true)(hv:ew E w (.val kt k) v)(hu:ew E w (.val vt y) u):∀{l:List MapEntry}{es:List (kt.den×vt.den)}{i j:Nat}{z:vt.den},
 RM E w kt vt l es→gN kt k es i=some (i+j,z)→RM E w kt vt (l.modify j fun e=>{e with key:=v,val:=u}) (bK kt k y es)∧(∃e,l[j]? =some e∧ew E w (.val kt k) e.key)
 |[],[],_,_,_,_,h=>by cases h
 |[],_::_,_,_,_,h,_=>h.elim
 |_::_,[],_,_,_,h,_=>h.elim
 |
  e::l,x::es,i,j,z,⟨h1,h2,h3⟩,h=>by
  simp only[gN] at h
  split at h
  ·rename_i hb
   have hj:j=0:=by grind
   subst hj
   have hx:=(dT hk _ _).1 hb
   refine⟨?_,e,rfl,by grind⟩
   simp only[bK,hb,cC]
   trivial
  ·rename_i hb
   have:=Fj h
   obtain⟨j,rfl⟩:∃m,j=m+1:=⟨j -1,by omega⟩
   rw[show i+(j+1)=(i+1)+j from by omega] at h
   obtain⟨r1,r2⟩:=RM.aaj hk hv hu h3 h
   simp only[bK,hb]
   trivial
theorem RM.push{E:Env}{w:World}{kt vt:Ty}{k:kt.den}{y:vt.den}{v u:Value}{n:Nat}(hv:ew E w (.val kt k) v)(hu:ew E w (.val vt y) u):∀{l:List MapEntry}{es:List (kt.den×vt.den)}{i:Nat},
 RM E w kt vt l es→gN kt k es i=none→RM E w kt vt (l++[{key:=v,val:=u,born:=n}]) (bK kt k y es)
 |[],[],_,_,_=>⟨hv,hu,trivial⟩
 |[],_::_,_,h,_=>h.elim
 |_::_,[],_,h,_=>h.elim
 |
  e::l,x::es,i,⟨h1,h2,h3⟩,h=>by
  simp only[gN] at h
  split at h
  ·cases h
  ·rename_i hb
   simp only[bK,hb]
   exact⟨h1,h2,RM.push hv hu h3 h⟩
theorem Fk{α:Type}{kt:Ty}{k x:kt.den}{y:α}:∀{es:List (kt.den×α)},x∈(bK kt k y es).map (·.1)→x=k∨x∈es.map (·.1)
 |[],h=>by simp[bK] at h;grind
 |
  e::es,h=>by
  simp only[bK] at h
  split at h
  ·simp only[fp,eN] at h ⊢
   rcases h with h|h
   ·exact Or.inl h
   ·exact Or.inr (Or.inr h)
  ·simp only[fp,eN] at h ⊢
   rcases h with h|h
   ·exact Or.inr (Or.inl h)
   ·exact(Fk h).imp id Or.inr
theorem fJ{α:Type}{kt:Ty}(hk:kt.keyed=true){k:kt.den}{y:α}:∀{es:List (kt.den×α)},(es.map (·.1)).Nodup→((bK kt k y es).map (·.1)).Nodup
 |[],_=>by simp[bK]
 |
  e::es,h=>by
  simp only[fp,lE] at h
  simp only[bK]
  split
  ·rename_i hb
   have:=(dT hk _ _).1 hb
   simp only[fp,lE]
   exact⟨by rw[this];exact h.1,h.2⟩
  ·rename_i hb
   simp only[fp,lE]
   refine⟨fun hm=>?_,fJ hk h.2⟩
   rcases Fk hm with e1|e1
   ·exact hb ((dT hk _ _).2 e1.symm)
   ·exact h.1 e1
theorem dp{α:Type}{kt:Ty}{k:kt.den}{y:α}:∀{es:List (kt.den×α)},(bK kt k y es).length≤es.length+1
 |[]=>by simp[bK]
 |
  e::es=>by
  simp only[bK]
  split
  ·simp
  ·have:=dp (k:=k) (y:=y) (es:=es);simp;omega
def pT(G:dq)(t:TypeId):Option (TypeId×TypeId×Ty×Ty):=
 match G.at t with
 |
  some td=>match G.at td.e,G.at td.e2 with
  |some k,some v=>if td.ty.rK&&k.ty.keyed&&v.ty.pure then some (td.e,td.e2,k.ty,v.ty) else none
  |_,_=>none
 |none=>none
theorem lQ{P:Program}{G:dq}(T:cQ P G){t ke ve:TypeId}{kt vt:Ty}(h:pT G t=some (ke,ve,kt,vt)):P.underlying t=some (.map ke ve)∧kt.keyed=true∧vt.pure=true∧(∃k,G.at ke=some k∧k.ty=kt)∧(∃v,G.at ve=some v∧v.ty=vt):=by
 unfold pT at h
 split at h
 ·rename_i td ht
  split at h
  ·rename_i k v hk hv
   split at h
   ·rename_i hc
    cases h
    simp only[bP] at hc
    exact⟨T.mapOf ht hc.1.1,hc.1.2,hc.2,⟨k,hk,rfl⟩,⟨v,hv,rfl⟩⟩
   grind
  grind
 grind
def wN(G:dq)(d:Nat)(t:TypeId):Option jv:=
 match pT G t with
 |some (_,_,kt,vt)=>some ⟨.mp d,[(d,some (.map kt vt []))],[d],[]⟩
 |none=>none
theorem Df{P:Program}{G:dq}(T:cQ P G){gl:Ctx}{σ:St}{E:Env}{a:Act}{w:World}(h:dE gl σ E a w){d:Nat}{t:TypeId}{r:jv}{rs:Option Value}(hrs:∀v,rs=some v→∃k n,v= .int k n)(he:wN G d t=some r)(hfr:∀b∈r.fr,σ.fresh b):
 ∃v w' E',(Instr.makeMap t rs).run P w= .ok v w'∧dE gl {σ with hp:=bJ σ.hp r.hw} E' a w'∧RV E' w' r.v v∧Ext gl.md (cU σ.hp E) E w (cU (bJ σ.hp r.hw) E') E' w':=by
 unfold wN at he
 split at he
 ·rename_i ke ve kt vt hm
  cases he
  obtain⟨h1,_⟩:=lQ T hm
  have hf:=hfr d (by simp)
  obtain⟨g1,x1⟩:=h.fresh (w':=w.alloc (.map #[] 0)) hf (g:=some w.heap.size) (sv:=undef) (t:=.unit) (k:=.map kt vt []) rfl (Tp.r rfl rfl) rfl (by simp) (fun i hi=>heap_alloc_old w _ i hi) (fun i hi=>by grind)
   ⟨by simp,by grind,w.heap.size, #[],0,by simp[Env.at],heap_alloc_new w _,trivial,by simp,by simp⟩
  refine⟨.map (some w.heap.size),_,_,?_,g1,RV.gZ (Or.inr ⟨rfl,w.heap.size,by simp[Env.at],rfl⟩),x1⟩
  cases rs with
  |none=>trivial
  |
   some v=>
   obtain⟨k,n,e⟩:=hrs v rfl
   simp_all[Instr.makeMap,run_underlying,asInt,asIntOf]
 grind
def BC(hb:Nat→Option aX)(kt vt:Ty):AV→Option (List (kt.den×vt.den))
 | .ia=>some []
 |
  .mp b=>match hb b with
  |some (.map k v es)=>if h:Ty.same k kt=true∧Ty.same v vt=true then some (Ty.aE h.1▸Ty.aE h.2▸es) else none
  |_=>none
 | .val (.map k v) y=>if h:Ty.same k kt=true∧Ty.same v vt=true then some (Ty.aE h.1▸Ty.aE h.2▸bA y) else none
 |_=>none
def Dg(ok:Bool)(kt vt:Ty)(k:kt.den)(es:List (kt.den×vt.den)):AV:=
 match ok with
 |true=>.ky (.cons (.val vt (aO kt vt k es)) (.cons (.val .bool (ep kt k es)) .nil))
 |false=>.val vt (aO kt vt k es)
def rR(P:Program)(G:dq)(hb:Nat→Option aX)(t:TypeId)(x i:AV)(ok:Bool):Option (AV×List VC):=
 match pT G t with
 |
  some (ke,_,kt,vt)=>match BC hb kt vt x,i.de kt with
  |some es,some k=>if i.plain then some (Dg ok kt vt k es,[vc (mD P G 40 ke kt=true)]) else none
  |_,_=>none
 |none=>none
theorem No{gl:Ctx}{E:Env}{w:World}{hp:List (Option aX)}(hw:HW gl E w hp){hb:Nat→Option aX}(hB:HB hb hp){kt vt:Ty}{x:AV}{v:Value}{es:List (kt.den×vt.den)}(hx:RV E w x v)(h:BC hb kt vt x=some es):
 (v= .map none∧es= [])∨∃g en clock,v= .map (some g)∧w.heap[g]? =some (.map en clock)∧RM E w kt vt en.toList es:=by
 unfold BC at h
 split at h
 ·cases h
  have:=RV.atom rfl hx
  simp_all[RC]
 ·split at h
  ·rename_i k v' es' hk
   split at h
   ·rename_i hc
    obtain⟨c1,c2⟩:=hc
    have e1:=Ty.aE c1;subst e1
    have e2:=Ty.aE c2;subst e2
    cases h
    obtain⟨g,hg,e⟩:=RV.atom rfl hx
    simp at e
    obtain⟨_,_,g',en,clock,r1,r2,r3,_⟩:=hw.eJ _ _ (hB _ _ hk)
    grind
   grind
  grind
 ·rename_i k v' y
  split at h
  ·rename_i hc
   obtain⟨c1,c2⟩:=hc
   have e1:=Ty.aE c1;subst e1
   have e2:=Ty.aE c2;subst e2
   cases h
   obtain⟨a,e,hr⟩:=RV.atom rfl hx
   simp at e;subst e
   rcases hr with⟨rfl,rfl⟩|⟨es,g,en,clock,rfl,rfl,_,r2,r3,_⟩
   ·exact Or.inl ⟨rfl,rfl⟩
   ·exact Or.inr ⟨g,en,clock,rfl,r2,RM.of r3⟩
  grind
 grind
theorem Fl{P:Program}{G:dq}(T:cQ P G){gl:Ctx}{E:Env}{w:World}{hp:List (Option aX)}(hw:HW gl E w hp){hb:Nat→Option aX}(hB:HB hb hp){t:TypeId}{x i:AV}{ok:Bool}{vx vi:Value}(hx:RV E w x vx)(hi:RV E w i vi){r:AV}{vc:List VC}(h:rR P G hb t x i ok=some (r,vc))(hvc:gm vc):
 ∃v,(Instr.lookup t vx vi ok).run P w= .ok v w∧RV E w r v:=by
 unfold rR at h
 split at h
 ·rename_i ke ve kt vt hm
  split at h
  ·rename_i es k hes hk
   split at h
   ·rename_i hpl
    cases h
    obtain⟨h1,h2,h3,⟨kd,h4,h5⟩,⟨vd,h6,h7⟩⟩:=lQ T hm
    subst h5;subst h7
    obtain⟨he,_⟩:=hvc
    have hkv:ew E w (.val kd.ty k) vi:=ew.de hk (RV.mN hpl hi)
    have hck:=mu T (E:=E) (w:=w)
    have hz:∃z,(zeroValue ve).run P w= .ok z w∧ew E w (.val vd.ty vd.ty.aH) z:=by
     obtain⟨z,z1,z2,z3⟩:=T.zero h6 w
     have hr:=(jF (E:=E) (w:=w) z2).2 h3
     refine⟨z,z1,?_⟩
     cases z with
     |agg cs=>exact Or.inl ⟨by simp only[M0] at z3;exact z3.symm,cs,rfl,hr⟩
     |_=>exact Or.inr ⟨by simp only[M0] at z3;exact z3.symm,by trivial⟩
    obtain⟨z,z1,z2⟩:=hz
    have fin:∀(en:Array MapEntry),RM E w kd.ty vd.ty en.toList es→∃r,(Instr.checkKey en.isEmpty 10000 ke vi).run P w= .ok () w∧(Instr.findKey ke vi en.toList).run P w= .ok r w∧
     ((r=none∧RV E w (Dg ok kd.ty vd.ty k es) (if ok then Value.tuple #[z,.bool false] else z))∨(∃q,r=some q∧RV E w (Dg ok kd.ty vd.ty k es) (if ok then Value.tuple #[q.2,.bool true] else q.2))):=by
     intro en hen
     obtain⟨r,r1,r2⟩:=zJ T h4 he hkv hen
     have hc:=hck en.isEmpty 9960 40 ke kd h4 he k vi hkv
     have hmg:=BB (vt:=vd.ty) (k:=k) (es:=es) (i:=0)
     have nh:ep kd.ty k es=false→aO kd.ty vd.ty k es=vd.ty.aH:=by
      generalize es=es
      induction es with
      |nil=>intro _;rfl
      |
       cons e es ih=>
       simp_all[ep,aO]
     have done:∀(v:Value)(b:Bool),ew E w (.val vd.ty (aO kd.ty vd.ty k es)) v→b=ep kd.ty k es→RV E w (Dg ok kd.ty vd.ty k es) (if ok then Value.tuple #[v,.bool b] else v):=by
      intro v b k1 k2
      subst k2
      cases ok with
      |true=>exact⟨_,rfl,k1,Or.inr ⟨rfl,rfl⟩,rfl⟩
      |false=>trivial
     revert r2 hmg
     generalize gN kd.ty k es 0=m
     intro r2 hmg
     cases m with
     |
      none=>
      cases r with
      |some _=>trivial
      |
       none=>
       grind
     |
      some p=>
      cases r with
      |none=>trivial
      |
       some q=>
       have hnh:ep kd.ty k es=true:=by
        grind
       rw[hnh] at hmg
       simp at hmg
       exact⟨some q,hc,r1,Or.inr ⟨q,rfl,done q.2 true (by rw[←hmg];exact r2.2) hnh.symm⟩⟩
    rcases No hw hB hx hes with⟨e1,e2⟩|⟨g,en,clock,e1,e2,e3⟩
    ·subst e1;subst e2
     obtain⟨r,k1,k2,k3⟩:=fin #[] trivial
     rcases k3 with⟨e,k3⟩|⟨q,e,k3⟩
     ·simp_all[Instr.lookup,run_underlying]
     simp_all[Instr.lookup,run_underlying]
    ·subst e1
     obtain⟨r,k1,k2,k3⟩:=fin en e3
     have apf:(getObj g).run P w= .ok (.map en clock) w:=by simp[getObj,Sem.run,e2]
     rcases k3 with⟨e,k3⟩|⟨q,e,k3⟩
     ·simp_all[Instr.lookup,run_underlying]
     simp_all[Instr.lookup,run_underlying]
   grind
  grind
 grind
def oj(P:Program)(G:dq)(hb:Nat→Option aX)(t:TypeId)(x k v:AV):Option jv:=
 match pT G t,x with
 |
  some (ke,_,kt,vt),.mp b=>match BC hb kt vt (.mp b),k.de kt,v.de vt with
  |some es,some k',some v'=>if k.plain&&v.plain then some ⟨.bot,[(b,some (.map kt vt (bK kt k' v' es)))],[],[vc (mD P G 40 ke kt=true),vc (es.length+1≤aF)]⟩ else none
  |_,_,_=>none
 |_,_=>none
theorem rS{P:Program}{G:dq}(T:cQ P G){gl:Ctx}{σ:St}{E:Env}{a:Act}{w:World}(h:dE gl σ E a w){hb:Nat→Option aX}(hB:HB hb σ.hp){t:TypeId}{x k v:AV}{vx vk vv:Value}(hx:RV E w x vx)(hk:RV E w k vk)(hv:RV E w v vv){r:jv}(he:oj P G hb t x k v=some r)(hvc:gm r.vc):
 ∃w',(Instr.mapUpdate t vx vk vv).run P w= .ok () w'∧dE gl {σ with hp:=bJ σ.hp r.hw} E a w'∧RV E w' r.v undef∧Ext gl.md (cU σ.hp E) E w (cU (bJ σ.hp r.hw) E) E w':=by
 unfold oj at he
 split at he
 ·rename_i ke ve kt vt b hm
  split at he
  ·rename_i es k' v' hes hk' hv'
   split at he
   ·rename_i hpl
    cases he
    simp only[bP] at hpl
    obtain⟨he,hlen,_⟩:=hvc
    obtain⟨h1,h2,h3,⟨kd,h4,h5⟩,⟨vd,h6,h7⟩⟩:=lQ T hm
    subst h5;subst h7
    have hkv:ew E w (.val kd.ty k') vk:=ew.de hk' (RV.mN hpl.1 hk)
    have hvv:ew E w (.val vd.ty v') vv:=ew.de hv' (RV.mN hpl.2 hv)
    have hbk:∃es0,hb b=some (.map kd.ty vd.ty es0)∧es0=es:=by
     simp only[BC] at hes
     grind
    obtain⟨es0,hb0,e0⟩:=hbk
    subst e0
    have hbk:=hB b _ hb0
    obtain⟨q1,q2,g,en,clock,q3,q4,q5,q6,q7⟩:=h.hw.eJ b _ hbk
    obtain⟨g',hg',e⟩:=RV.atom rfl hx
    simp at e;subst e
    rw[q3] at hg';cases hg'
    obtain⟨r,r1,r2⟩:=zJ T h4 he hkv q5
    have hc:=mu T (E:=E) (w:=w) false 9960 40 ke kd h4 he k' vk hkv
    have apf:(getObj g).run P w= .ok (.map en clock) w:=by simp[getObj,Sem.run,q4]
    have hlt:g<w.heap.size:=(Array.getElem?_eq_some_iff.1 q4).1
    have key:∃en' apb,(Instr.mapUpdate t (.map (some g)) vk vv).run P w= .ok () (w.putObj g (.map en' apb))∧RM E w kd.ty vd.ty en'.toList (bK kd.ty k' v' es0)∧(∀x∈en'.toList,x.born<apb)∧(en'.toList.map (·.born)).Nodup:=by
     have bJ:∀o,(setObj g o).run P w= .ok () (w.putObj g o):=fun o=>by simp[setObj,Sem.run,q4,World.putObj]
     cases hf:gN kd.ty k' es0 0 with
     |
      none=>
      rw[hf] at r2
      cases r with
      |some _=>trivial
      |
       none=>
       refine⟨en.push {key:=vk,val:=vv,born:=clock},clock+1,?_,?_,?_,?_⟩
       ·simp_all[Instr.mapUpdate,run_underlying]
       ·grind [RM.push]
       ·grind
       grind
     |
      some p=>
      obtain⟨i,y⟩:=p
      rw[hf] at r2
      cases r with
      |none=>trivial
      |
       some q=>
       obtain⟨i',u⟩:=q
       obtain⟨e1,e2⟩:=r2
       simp only at e1 e2
       subst e1
       obtain⟨t1,e0,t2,t3⟩:=RM.aaj (i:=0) (j:=i) h2 hkv hvv q5 (by rw[ek];exact hf)
       obtain⟨f1,f2⟩:=ew.fn h2 t3 hkv
       have hold:((en[i]?).map (·.key)).getD vk=e0.key:=by
        grind
       have hstay:(Instr.keyThatStays (((en[i]?).map (·.key)).getD vk) vk).run P w= .ok vk w:=by
        simp_all[Instr.keyThatStays]
       refine⟨en.modify i fun e=>{e with key:=vk,val:=vv},clock,?_,?_,?_,?_⟩
       ·simp_all[Instr.mapUpdate,run_underlying]
       ·grind
       ·grind [List.mem_iff_getElem?]
       ·have:(en.modify i fun e=>{e with key:=vk,val:=vv}).toList.map (·.born)=en.toList.map (·.born):=by
         rw[Array.toList_modify]
         apply List.ext_getElem?
         grind
        grind
    obtain⟨en',apb,k1,k2,k3,k4⟩:=key
    have kp:di E w E (w.putObj g (.map en' apb)):=⟨fun i hi=>World.putObj_heap_other (fun e=>h.hw.oM b _ g hbk q3 (e▸hi)),fun _ h=>h⟩
    have hrb:RB E (w.putObj g (.map en' apb)) b (.map kd.ty vd.ty (bK kd.ty k' v' es0)):=
     ⟨fJ h2 q1,cW dp hlen,g,en',apb,q3,World.putObj_heap_same hlt,RM.mono kp k2,k3,k4⟩
    have hw2:=h.hw.write hbk (by simp) (fun i hi=>World.putObj_heap_other (fun e=>hi (by grind))) hrb
    refine⟨_,k1,h.carry kp (fun _ _=>⟨rfl,rfl,rfl⟩) hw2,trivial,⟨rfl,Tp.r rfl rfl,rfl,by simp,?_,fun _ h=>h,fun _ h=>Or.inl h,fun i hi=>Or.inl (cU.rN hbk hi),fun _ _=>⟨rfl,rfl,rfl⟩⟩⟩
    intro i hi ho
    exact World.putObj_heap_other (fun e=>ho ⟨b,_,hbk,by rw[e];exact Or.inl q3⟩)
   grind
  grind
 grind
end Go.Ax
namespace Go.Ax
def mc:List AV→AV
 |[]=>.nil
 |x::l=>.cons x (mc l)
def zL(fn:Fn)(fs cs:List AV):Option AV:=
 if(mc fs).atoms&&(mc cs).atoms then some (.func fn (mc fs) (mc cs)) else(match fn,fs,cs with
  | .func f,[.val t x],[]=>if t.isAgg then some (.fm f t x) else none
  |_,_,_=>none)
theorem t6{E:Env}{w:World}:∀{l:List Operand}{ev:Operand→AV}{f:Operand→Value},(∀x∈l,RV E w (ev x) (f x))→(mc (l.map ev)).atoms=true→RC E w (mc (l.map ev)) (l.map f)
 |[],_,_,_,_=>rfl
 |
  x::l,ev,f,h,ha=>by
  simp only[fp,mc,AV.atoms,bP] at ha ⊢
  exact⟨[f x],l.map f,rfl,RV.atom ha.1 (h x (dx ..)),t6 (fun y hy=>h y (dH _ hy)) ha.2⟩
def sU(ev:Operand→AV)(ps:Array (Nat×Operand)):List (Nat×AV):=ps.toList.map fun x=>(x.1,ev x.2)
theorem pU{E:Env}{w:World}{ev:Operand→AV}{f:Operand→Value}:∀{ps:List (Nat×Operand)},(∀x∈ps,RV E w (ev x.2) (f x.2))→RP E w (ps.map fun x=>(x.1,ev x.2)) (ps.map fun x=>(x.1,f x.2))
 |[],_=>trivial
 |x::_l,h=>⟨rfl,h x (dx ..),pU (fun y hy=>h y (dH _ hy))⟩
def zM(P:Program)(G:dq)(d:Nat)(op:Op)(ev:Operand→AV)(hb:Nat→Option aX):Option jv:=
 match op with
 | .build t ps=>(Da G t (sU ev ps)).map .one
 | .buildSlice t n ps=>(pN G d t n (sU ev ps)).map fun y=>⟨y.1,[(d,some y.2)],[d],[]⟩
 | .makeFunc fn fs cs=>(zL fn (fs.toList.map ev) (cs.toList.map ev)).map .one
 | .slice t x lo hi mx=>(Dc G hb t (ev x) (lo.map ev) (hi.map ev) (mx.map ev)).map .PC
 | .makeSlice t l c=>rQ G d t (ev l) (ev c)
 | .convert s t x=>(Dd G hb s t (ev x)).map .one
 | .binOp o t x y _=>(Wp P G o t (ev x) (ev y)).map .PC
 | .call {callee:=.builtin .append,args:=⟨[x,y]⟩,argTypes:=⟨[t,t2]⟩}=>zA G hb d t t2 (ev x) (ev y)
 | .call {callee:=.builtin .copy,args:=⟨[x,y]⟩,argTypes:=⟨[t,_]⟩}=>Ia G hb t (ev x) (ev y)
 | .call {callee:=.builtin .clear,args:=⟨[x]⟩,argTypes:=⟨[t]⟩}=>De G hb t (ev x)
 | .makeMap t none=>wN G d t
 | .lookup t x i ok=>(rR P G hb t (ev x) (ev i) ok).map .PC
 | .mapUpdate t x k v=>oj P G hb t (ev x) (ev k) (ev v)
 | .insert t x k v=>oj P G hb t (ev x) (ev k) (ev v)
 |_=>none
theorem Dh{E:Env}{w:World}{ev:Operand→AV}{f:Operand→Value}{o:Option Operand}(h:∀x,o=some x→RV E w (ev x) (f x)):RO E w (o.map ev) (o.map f):=by
 cases o with
 |none=>trivial
 |some x=>exact h x rfl
theorem Np{P:Program}{G:dq}(T:cQ P G){gl:Ctx}{σ:St}{E:Env}{a:Act}{w:World}(h:dE gl σ E a w){o:Oper}{d:Nat}{ev:Operand→AV}{hb:Nat→Option aX}(hB:HB hb σ.hp){r:jv}
 (hev:∀x∈o.op.operands.toList,RV E w (ev x) (a.eval x)) (he:zM P G d o.op ev hb=some r) (hvc:gm r.vc) (hfr:∀b∈r.fr,σ.fresh b):dz P gl σ E a w o r:=by
 unfold zM at he
 split at he
 ·rename_i t ps hop
  obtain⟨u,hu,rfl⟩:=Option.map_eq_some_iff.1 he
  have hp:RP E w (sU ev ps) (ps.map fun(i,x)=>(i,a.eval x)).toList:=by
   rw[Array.toList_map]
   refine pU (fun x hx=>hev x.2 ?_)
   simp only[hop,Op.operands,List.mem_map]
   grind
  obtain⟨v,h1,h2⟩:=run_build T hp hu
  exact dz.same h (v:=v) (by simp[execOp,hop,h1]) h2
 ·rename_i t n ps hop
  obtain⟨⟨u,k⟩,hu,rfl⟩:=Option.map_eq_some_iff.1 he
  have hp:RP E w (sU ev ps) (ps.map fun(i,x)=>(i,a.eval x)).toList:=by
   rw[Array.toList_map]
   refine pU (fun x hx=>hev x.2 ?_)
   simp only[hop,Op.operands,List.mem_map]
   grind
  obtain⟨v,w',E',h1,h2,h3,h4⟩:=xP T h (hfr d (by simp)) hp hu
  exact⟨_,v,w',E',by simp[execOp,hop,h1],Or.inl rfl,h2,h3,h4⟩
 ·rename_i fn fs cs hop
  obtain⟨u,hu,rfl⟩:=Option.map_eq_some_iff.1 he
  unfold zL at hu
  split at hu
  ·rename_i hc
   cases hu
   simp only[bP] at hc
   have h1:RC E w (mc (fs.toList.map ev)) (fs.toList.map a.eval):=t6 (fun x hx=>hev x (by grind [Op.operands])) hc.1
   have h2:RC E w (mc (cs.toList.map ev)) (cs.toList.map a.eval):=t6 (fun x hx=>hev x (by grind [Op.operands])) hc.2
   exact dz.same h (v:=.func fn (fs.map a.eval) (cs.map a.eval)) (by simp[execOp,hop,Instr.makeFunc]) (RV.gZ (Or.inr ⟨rfl,fs.map a.eval,cs.map a.eval,rfl,by simp_all,by simp_all,hc.1,hc.2⟩))
  ·split at hu
   ·rename_i f t x e1 e2
    split at hu
    ·rename_i ha
     cases hu
     obtain⟨o,ho,hx⟩:∃o,fs.toList= [o]∧ev o= .val t x:=by
      simp_all
     have hcs:cs.toList= []:=List.map_eq_nil_iff.1 e2
     have hv:=hev o (by grind [Op.operands])
     rw[hx] at hv
     have hv0:ew E w (.val t x) (a.eval o):=hv
     rcases hv0 with⟨_,cl,e,apD⟩|⟨hn,_⟩
     ·refine dz.same h (v:=.func (.func f) (fs.map a.eval) (cs.map a.eval)) (by simp[execOp,hop,Instr.makeFunc]) (RV.gZ (Or.inr ⟨rfl,ha,cl,?_,apD⟩))
      have e3:fs.map a.eval= #[.agg cl]:=by grind [Array.toList_map]
      simp_all
     grind [AV.isAgg]
    grind
   grind
 ·rename_i t x lo hi mx hop
  obtain⟨⟨u,vc⟩,hu,rfl⟩:=Option.map_eq_some_iff.1 he
  have mem:∀y,y=x∨lo=some y∨hi=some y∨mx=some y→RV E w (ev y) (a.eval y):=by
   simp_all[Op.operands]
  obtain⟨v,h1,h2⟩:=H8 T h.hw hB (mem x (Or.inl rfl)) (Dh (f:=a.eval) fun y hy=>mem y (Or.inr (Or.inl hy))) (Dh (f:=a.eval) fun y hy=>mem y (Or.inr (Or.inr (Or.inl hy)))) (Dh (f:=a.eval) fun y hy=>mem y (Or.inr (Or.inr (Or.inr hy)))) hu hvc
  exact dz.same h (v:=v) (by simp[execOp,hop,h1]) h2
 ·rename_i t l c hop
  obtain⟨v,w',E',h1,h2,h3,h4⟩:=zD T h (hev l (by simp[hop,Op.operands])) (hev c (by simp[hop,Op.operands])) he hvc hfr
  exact⟨_,v,w',E',by simp[execOp,hop,h1],Or.inl rfl,h2,h3,h4⟩
 ·rename_i s t x hop
  obtain⟨u,hu,rfl⟩:=Option.map_eq_some_iff.1 he
  obtain⟨v,w',E',h1,h2,h3,h4⟩:=H9 T h hB (hev x (by simp[hop,Op.operands])) hu
  exact⟨_,v,w',E',by simp[execOp,hop,h1],Or.inl rfl,h2,h3,h4⟩
 ·rename_i bo t x y t2 hop
  obtain⟨⟨u,vc⟩,hu,rfl⟩:=Option.map_eq_some_iff.1 he
  obtain⟨h0,v,h1,h2⟩:=RQ T (ox:=x) (oy:=y) (hev x (by simp[hop,Op.operands])) (hev y (by simp[hop,Op.operands])) hu hvc
  exact dz.same h (v:=v) (by simp[execOp,hop,h0,h1]) h2
 ·rename_i x y t t2 hop
  obtain⟨v,w',E',h1,h2,h3,h4⟩:=Fg T (ty:=o.type) h hB (hev x (by simp[hop,Op.operands,Call.operands])) (hev y (by simp[hop,Op.operands,Call.operands])) he hvc hfr
  refine⟨_,v,w',E',?_,Or.inl rfl,h2,h3,h4⟩
  simp[execOp,hop,resolve,invoke,builtin,h1]
 ·rename_i x y t t2 hop
  obtain⟨v,w',h1,h2,h3,h4⟩:=LW T (t2:=t2) (ty:=o.type) h hB (hev x (by simp[hop,Op.operands,Call.operands])) (hev y (by simp[hop,Op.operands,Call.operands])) he
  refine⟨_,v,w',E,?_,Or.inl rfl,h2,h3,h4⟩
  simp[execOp,hop,resolve,invoke,builtin,h1]
 ·rename_i x t hop
  obtain⟨v,w',h1,h2,h3,h4⟩:=Ib T (ty:=o.type) h hB (hev x (by simp[hop,Op.operands,Call.operands])) he
  refine⟨_,v,w',E,?_,Or.inl rfl,h2,h3,h4⟩
  simp[execOp,hop,resolve,invoke,builtin,h1]
 ·rename_i t hop
  obtain⟨v,w',E',h1,h2,h3,h4⟩:=Df T (P:=P) (rs:=none) h (fun v hv=>by cases hv) he hfr
  exact⟨_,v,w',E',by simp[execOp,hop,h1],Or.inl rfl,h2,h3,h4⟩
 ·rename_i t x i ok hop
  obtain⟨⟨u,vc⟩,hu,rfl⟩:=Option.map_eq_some_iff.1 he
  obtain⟨v,h1,h2⟩:=Fl T h.hw hB (hev x (by simp[hop,Op.operands])) (hev i (by simp[hop,Op.operands])) hu hvc
  exact dz.same h (v:=v) (by simp[execOp,hop,h1]) h2
 ·rename_i t x k v hop
  obtain⟨w',h1,h2,h4,h3⟩:=rS T h hB (hev x (by simp[hop,Op.operands])) (hev k (by simp[hop,Op.operands])) (hev v (by simp[hop,Op.operands])) he hvc
  exact⟨_,undef,w',E,by simp[execOp,hop,h1],Or.inr ⟨rfl,rfl⟩,h2,h4,h3⟩
 ·rename_i t x k v hop
  obtain⟨w',h1,h2,h4,h3⟩:=rS T h hB (hev x (by simp[hop,Op.operands])) (hev k (by simp[hop,Op.operands])) (hev v (by simp[hop,Op.operands])) he hvc
  exact⟨_,undef,w',E,by simp[execOp,hop,h1],Or.inr ⟨rfl,rfl⟩,h2,h4,h3⟩
 grind
end Go.Ax
namespace Go.Ax
def pn:List (Nat×Nat)→Nat→Option Nat
 |[],_=>none
 |(a,b)::l,x=>if Nat.beq a x then some b else pn l x
def AV.iY(m:List (Nat×Nat)):AV→Option AV
 | .own b=>(pn m b).map .own
 | .nQ b lo len=>(pn m b).map fun c=>.nQ c lo len
 | .mL b p lo len=>(pn m b).map fun c=>.mL c p lo len
 | .ptr b p=>(pn m b).map fun c=>.ptr c p
 | .mp b=>(pn m b).map .mp
 |
  .func fn fs cs=>match fs.iY m,cs.iY m with
  |some f,some c=>if f.atoms&&c.atoms then some (.func fn f c) else none
  |_,_=>none
 |
  .iface t v=>match v.iY m with
  |some u=>if u.isAgg==v.isAgg then some (.iface t u) else none
  |none=>none
 |
  .cons a b=>match a.iY m,b.iY m with
  |some x,some y=>some (.cons x y)
  |_,_=>none
 | .ky l=>(l.iY m).map .ky
 | .opt _ _=>none
 | .jc _=>none
 |x=>some x
structure Rn(m:List (Nat×Nat))(E E':Env):Prop where
 at':∀b c,pn m b=some c→E'.g c=E.g b∧E'.sv c=E.sv b∧E'.bt c=E.bt b
 S:∀g,E.S g→E'.S g
theorem AV.RR{m:List (Nat×Nat)}{x y:AV}(h:x.iY m=some y):y.isAgg=x.isAgg:=by
 cases x with
 |own b=>simp only[AV.iY,jz] at h;obtain⟨c,_,rfl⟩:=h;rfl
 |nQ b lo len=>simp only[AV.iY,jz] at h;obtain⟨c,_,rfl⟩:=h;rfl
 |mL b p lo len=>simp only[AV.iY,jz] at h;obtain⟨c,_,rfl⟩:=h;rfl
 |ptr b p=>simp only[AV.iY,jz] at h;obtain⟨c,_,rfl⟩:=h;rfl
 |mp b=>simp only[AV.iY,jz] at h;obtain⟨c,_,rfl⟩:=h;rfl
 |
  func fn fs cs=>
  simp only[AV.iY] at h
  split at h
  ·split at h
   ·cases h;rfl
   grind
  grind
 |
  iface t v=>
  simp only[AV.iY] at h
  split at h
  ·split at h
   ·cases h;rfl
   grind
  grind
 |
  cons a b=>
  simp only[AV.iY] at h
  split at h
  ·cases h;rfl
  grind
 |ky l=>simp only[AV.iY,jz] at h;obtain⟨c,_,rfl⟩:=h;rfl
 |opt c v=>trivial
 |jc c=>trivial
 |_=>grind [AV.iY]
theorem RC.iY{m:List (Nat×Nat)}{E E':Env}{w:World}(r:Rn m E E'):∀{x y:AV}{vs:List Value},x.iY m=some y→RC E w x vs→RC E' w y vs:=by
 intro x
 have kp:di E w E' w:=⟨fun _ _=>rfl,r.S⟩
 induction x with
 |
  own b=>
  intro y vs h hr
  simp only[AV.iY,jz] at h
  obtain⟨c,hc,rfl⟩:=h
  obtain⟨_,e2,_⟩:=r.at' b c hc
  grind [RC]
 |
  nQ b lo len=>
  intro y vs h hr
  simp only[AV.iY,jz] at h
  obtain⟨c,hc,rfl⟩:=h
  obtain⟨_,e2,e3⟩:=r.at' b c hc
  obtain⟨a,c',n,t,hr⟩:=hr
  exact⟨a,c',n,t,by grind⟩
 |
  mL b p lo len=>
  intro y vs h hr
  simp only[AV.iY,jz] at h
  obtain⟨c,hc,rfl⟩:=h
  obtain⟨e1,e2,e3⟩:=r.at' b c hc
  obtain⟨n,t,hr⟩:=hr
  exact⟨n,t,by grind⟩
 |
  ptr b p=>
  intro y vs h hr
  simp only[AV.iY,jz] at h
  obtain⟨c,hc,rfl⟩:=h
  obtain⟨e1,e2,e3⟩:=r.at' b c hc
  obtain⟨g,hr⟩:=hr
  exact⟨g,by grind⟩
 |
  mp b=>
  intro y vs h hr
  simp only[AV.iY,jz] at h
  obtain⟨c,hc,rfl⟩:=h
  obtain⟨e1,e2,e3⟩:=r.at' b c hc
  obtain⟨g,hr⟩:=hr
  exact⟨g,by grind⟩
 |
  func fn fs cs ih1 ih2=>
  intro y vs h hr
  simp only[AV.iY] at h
  split at h
  ·rename_i f c hf hc
   split at h
   ·rename_i ha
    cases h
    simp only[bP] at ha
    obtain⟨f',c',e,r1,r2,r3,r4⟩:=hr
    exact⟨f',c',e,ih1 hf r1,ih2 hc r2,ha.1,ha.2⟩
   grind
  grind
 |
  iface t v ih=>
  intro y vs h hr
  simp only[AV.iY] at h
  split at h
  ·rename_i u hu
   split at h
   ·rename_i ha
    cases h
    have ha:u.isAgg=v.isAgg:=by grind
    obtain⟨x,e,hr⟩:=hr
    refine⟨x,e,?_⟩<;>grind
   grind
  grind
 |
  cons a b ih1 ih2=>
  intro y vs h hr
  simp only[AV.iY] at h
  split at h
  ·rename_i x' y' h1 h2
   cases h
   obtain⟨v1,v2,e,r1,r2⟩:=hr
   exact⟨v1,v2,e,ih1 h1 r1,ih2 h2 r2⟩
  grind
 |ky l=>intro y vs h hr;trivial
 |opt c v=>intro y vs h hr;trivial
 |val t x=>intro y vs h hr;simp only[AV.iY,fG] at h;subst h;exact Rel.mono kp.w kp.S hr
 |dk t x=>intro y vs h hr;simp only[AV.iY,fG] at h;subst h;exact RC.mono kp (fun b hb=>by cases hb) (a:=.dk t x) hr
 |fm f t x=>intro y vs h hr;simp only[AV.iY,fG] at h;subst h;exact RC.mono kp (fun b hb=>by cases hb) (a:=.fm f t x) hr
 |jc c=>intro y vs h;trivial
 |_=>intro y vs h hr;simp only[AV.iY,fG] at h;subst h;exact hr
theorem ew.iY{m:List (Nat×Nat)}{E E':Env}{w:World}(r:Rn m E E'){x y:AV}{v:Value}(h:x.iY m=some y)(hr:ew E w x v):ew E' w y v:=by
 have ha:=AV.RR h
 rcases hr with⟨h1,cs,e,h2⟩|⟨h1,h2⟩
 ·exact Or.inl ⟨by grind,cs,e,RC.iY r h h2⟩
 ·exact Or.inr ⟨by grind,RC.iY r h h2⟩
theorem RT.iY{m:List (Nat×Nat)}{E E':Env}{w:World}(r:Rn m E E'):∀{x y:AV}{vs:List Value},x.iY m=some y→RT E w x vs→RT E' w y vs:=by
 intro x
 induction x with
 |
  cons a b ih1 ih2=>
  intro y vs h hr
  simp only[AV.iY] at h
  split at h
  ·rename_i x' y' h1 h2
   cases h
   cases vs with
   |nil=>trivial
   |cons v vs=>exact⟨ew.iY r h1 hr.1,ih2 h2 hr.2⟩
  grind
 |nil=>intro y vs h hr;simp only[AV.iY,fG] at h;subst h;exact hr
 |_=>intro y vs h hr;trivial
theorem RV.iY{m:List (Nat×Nat)}{E E':Env}{w:World}(r:Rn m E E'){x y:AV}{v:Value}(h:x.iY m=some y)(hr:RV E w x v):RV E' w y v:=by
 cases x with
 |bot=>simp only[AV.iY,fG] at h;subst h;trivial
 |
  ky l=>
  simp only[AV.iY,jz] at h
  obtain⟨l',h,rfl⟩:=h
  obtain⟨vs,e,hr⟩:=hr
  exact⟨vs,e,RT.iY r h hr⟩
 |opt c a=>trivial
 |_=>exact RV.gZ (ew.iY r h hr)
def aX.iY(m:List (Nat×Nat)):aX→Option aX
 |
  .var t v=>match v.iY m with
  |some u=>if u.dY t then some (.var t u) else none
  |none=>none
 |
  .tv g t v=>match v.iY m with
  |some u=>if u.dY t then some (.tv g t u) else none
  |none=>none
 |
  .dB e bs t xs i v=>match v.iY m with
  |some u=>if u.dY t then some (.dB e bs t xs i u) else none
  |none=>none
 | .eW _ _ _ _ _ (some _)| .pmap _ _ _ _ (some _)| .j8 .. | .k7 .. =>none
 |k=>some k
theorem RB.iY{m:List (Nat×Nat)}{E E':Env}{w:World}(r:Rn m E E'){b c:Nat}(hc:E'.g c=E.g b∧E'.sv c=E.sv b∧E'.bt c=E.bt b){k k':aX}(hP:k.V7=true→∀g,E.P b g→E'.P c g)(h:k.iY m=some k')(hk:RB E w b k):RB E' w c k':=by
 obtain⟨e1,e2,e3⟩:=hc
 have kp:di E w E' w:=⟨fun _ _=>rfl,r.S⟩
 cases k with
 |
  var t v=>
  simp only[aX.iY] at h
  split at h
  ·rename_i u hu
   split at h
   ·rename_i hconf
    cases h
    obtain⟨h1,h2,g,c',e,h3,h4,h5⟩:=hk
    exact⟨by grind,hconf,g,c',e,by grind,h4,RC.iY r hu h5⟩
   grind
  grind
 |
  row e bs t xs=>
  simp only[aX.iY,fG] at h;subst h
  obtain⟨h1,h2,h3,h4,a,cap,h5,h6,h7⟩:=hk
  refine⟨by grind,h2,h3,h4,a,cap,by grind,h6,?_⟩
  rcases h7 with⟨h7,h8,h9⟩|⟨g,c',h7,h8,h9,h10,h11,h12⟩
  ·grind
  ·exact Or.inr ⟨g,c',by grind,h8,h9,h10,h11,bO.mono (fun _ _=>Rel.mono kp.w kp.S) h12⟩
 |
  map kt vt es=>
  simp only[aX.iY,fG] at h;subst h
  obtain⟨h1,h1',g,en,clock,h2,h3,h4,h5,h6⟩:=hk
  exact⟨h1,h1',g,en,clock,by grind,h3,RM.mono kp h4,h5,h6⟩
 |
  qX k v rest cur=>
  simp only[aX.iY,fG] at h;subst h
  obtain⟨g,om,since,seen,c0,q1,q2,q3⟩:=hk
  refine⟨g,om,since,seen,c0,by grind,q2,q3.imp id ?_⟩
  rintro⟨bm,en,r1,r2,r3,r4,r5,r6,r7,r8⟩
  refine⟨bm,en,r1,kp.S bm r2,r3,r4,r5,r6,RM.mono kp r7,fun x hx=>?_⟩
  obtain⟨e,s0,t1,t2,t3,t4⟩:=r8 x hx
  exact⟨e,s0,t1,t2,ew.mono kp (fun _ hb=>by cases hb) t3,ew.mono kp (fun _ hb=>by cases hb) t4⟩
 |
  eW e bs t xs e2' f=>
  cases f with
  |some f=>trivial
  |
   none=>
   simp only[aX.iY,fG] at h;subst h
   obtain⟨h1,h2,h3,h4,h5,g,cap,c',og,q1,q2,q3,q4,q5,q6,q7,q8⟩:=hk
   refine⟨by grind,h2,h3,h4,h5,g,cap,c',og,by grind,q2,by grind,q4,q5,q6,q7.mono (hP rfl),fun i x hx=>?_⟩
   obtain⟨u,r1,r2,r3⟩:=q8 i x hx
   exact⟨u,r1,fun v hv=>(by cases hv),fun hv=>fq.mono kp.w kp.S (fun _ _=>rfl) (r3 (fun v hv=>by cases hv))⟩
 |
  pmap kt t es e2' f=>
  cases f with
  |some f=>trivial
  |
   none=>
   simp only[aX.iY,fG] at h;subst h
   obtain⟨h1,h2,h3,g,en,clock,og,q1,q2,q3,q4,q5,q6,q7,q8⟩:=hk
   refine⟨h1,h2,h3,g,en,clock,og,by grind,q2,q3,q4,q5.mono (hP rfl),q6,fun i x hx=>?_,fun kx v=>⟨fun hf=>(by cases hf),fun hf=>(by cases hf)⟩⟩
   obtain⟨m,r1,r2,r3,r4⟩:=q7 i x hx
   exact⟨m,r1,ew.mono kp (fun _ hb=>by cases hb) r2,fun v pr hv=>(by cases hv),fun hv=>fq.mono kp.w kp.S (fun _ _=>rfl) (r4 (fun v pr hv=>by cases hv))⟩
 |j8 kt t es e2' kx v pr=>trivial
 |k7 kt l=>trivial
 |lp l r=>simp only[aX.iY,fG] at h;subst h;exact⟨by rw[e1];exact hk.1,hk.2⟩
 |AZ=>simp only[aX.iY,fG] at h;subst h;obtain⟨g,h1,h2⟩:=hk;exact⟨g,by grind,h2⟩
 |
  tv g t v=>
  simp only[aX.iY] at h
  split at h
  ·rename_i u hu
   split at h
   ·rename_i hconf
    cases h
    obtain⟨h0,h1,h2,c',e,h4,h5⟩:=hk
    exact⟨by grind,by grind,hconf,c',e,h4,RC.iY r hu h5⟩
   grind
  grind
 |
  dB e bs t xs i v=>
  simp only[aX.iY] at h
  split at h
  ·rename_i u hu
   split at h
   ·rename_i hconf
    cases h
    obtain⟨h1,h2,h3,h4,h5,h6,g,cap,c',q1,q2,q3,q4,q5,q6,q7,q8,q9⟩:=hk
    exact⟨by grind,h2,h3,h4,h5,hconf,g,cap,c',by grind,q2,by grind,q4,q5,q6,bO.mono (fun _ _=>Rel.mono kp.w kp.S) q7,RC.iY r hu q8,bO.mono (fun _ _=>Rel.mono kp.w kp.S) q9⟩
   grind
  grind
theorem wO{hb:Nat→Option aX}:∀{x:AV}{m:Bool}{t:Ty}{y:AV}{l:List Nat},view hb x m t=some (y,l)→y.ids= []:=by
 intro x
 induction x with
 |val u x=>intro m t y l h;simp only[view,fG,jb] at h;rw[←h.1];rfl
 |aM=>intro m t y l h;cases m<;>cases t<;>simp[view] at h<;>(rw[←h.1];rfl)
 |
  own b=>
  intro m t y l h
  have h':(match jw hb b with|some ⟨bs,t,xs⟩=>some (AV.val (.slice bs t) xs,[b])|none=>none)=some (y,l):=by trivial
  split at h'<;>cases h';rfl
 |
  nQ b lo len=>
  intro m t y l h
  have h':(match jw hb b with|some ⟨bs,t,xs⟩=>some (AV.val (.slice bs t) ((xs.drop lo).take len),[b])|none=>none)=some (y,l):=by trivial
  split at h'<;>cases h';rfl
 |
  mL b p lo len=>
  intro m t y l h
  cases t with
  |
   slice bs u=>
   have h':(match hb b with
    |
     some (.var _ v)=>match v.get p with
     |some (.val (.arr n t) xs)=>if Nat.ble (n*bs) aF&&Nat.ble n aF then some (AV.val (.slice bs t) ((List.drop lo xs).take len),[b]) else none
     |_=>none
    |_=>none)=some (y,l):=by trivial
   split at h'
   ·split at h'
    ·split at h'
     ·cases h';rfl
     grind
    grind
   grind
  |_=>trivial
 |
  ptr b p=>
  intro m t y l h
  have h':(match hb b with
   |
    some k=>match tE k p,(mG k).sub p with
    |
     some u,some s=>match u.de s with
     |some y=>some (AV.dk s y,[b])
     |none=>none
    |_,_=>none
   |none=>none)=some (y,l):=by trivial
  split at h'
  ·split at h'
   ·split at h'
    ·cases h';rfl
    grind
   grind
  grind
 |dk u x=>
  intro m t y l h;have h':some (AV.dk u x,([]:List Nat))=some (y,l):=by trivial
  cases h';rfl
 |
  func fn fs cs ih1 ih2=>
  grind [view,AV.ids]
 |
  cons a b ih1 ih2=>
  intro m t y l h
  cases m with
  |
   true=>
   grind [view,AV.ids]
  |
   false=>
   cases t with
   |
    pair s t=>
    simp only[view] at h
    split at h
    ·cases h;rfl
    grind
   |_=>trivial
 |nil=>intro m t y l h;cases m<;>cases t<;>simp[view] at h<;>(rw[←h.1];rfl)
 |kv=>
  intro m t y l h;have h':some (AV.kv,([]:List Nat))=some (y,l):=by trivial
  cases h';rfl
 |jD=>
  intro m t y l h;have h':some (AV.jD,([]:List Nat))=some (y,l):=by trivial
  cases h';rfl
 |
  mp b=>
  intro m t y l h
  have h':(match hb b with
   |some (.map k v es)=>some (AV.val (.map k v) (some es),[b])
   |_=>none)=some (y,l):=by trivial
  split at h'
  ·cases h';rfl
  grind
 |
  fm f u x=>
  intro m t y l h
  have h':some (AV.fm f u x,([]:List Nat))=some (y,l):=by trivial
  cases h';rfl
 |_=>grind [view]
def Wq(φ:List (Nat×Nat))(hb:Nat→Option aX)(x:AV)(t:Ty):Option (AV×List Nat):=
 if x.ids.isEmpty then(match view hb x false t with
  |some r=>some r
  |none=>(x.iY φ).map fun y=>(y,[]))
 else match x.iY φ with
  |some y=>some (y,[])
  |none=>view hb x false t
def qR(φ:List (Nat×Nat))(hb:Nat→Option aX):List (AV×Ty)→Option (List AV×List Nat)
 |[]=>some ([],[])
 |
  (x,t)::l=>if x.plain then(match Wq φ hb x t,qR φ hb l with
  |some (y,m),some (ys,ms)=>some (y::ys,m++ms)
  |_,_=>none) else none
theorem rT{gl:Ctx}{E E0:Env}{w:World}{hp:List (Option aX)}(hw:HW gl E w hp){hb:Nat→Option aX}(hB:HB hb hp){φ:List (Nat×Nat)}(hφ:∀b c,pn φ b=some c→E0.g c=E.g b∧E0.sv c=E.sv b∧E0.bt c=E.bt b):
 ∀{l:List (AV×Ty)}{ys:List AV}{ms:List Nat}{vs:List Value},qR φ hb l=some (ys,ms)→(∀g,(E.eQ ms).S g→E0.S g)→ru E w (l.map (·.1)) vs→ru E0 w ys vs
 |
  [],ys,ms,vs,h,_,hr=>by
  cases h
  cases vs with
  |nil=>trivial
  |cons _ _=>trivial
 |
  (x,t)::l,ys,ms,vs,h,hS,hr=>by
  unfold qR at h
  split at h
  ·rename_i hp
   split at h
   ·rename_i y m ys' ms' h1 h2
    cases h
    cases vs with
    |nil=>exact hr.elim
    |
     cons v vs=>
     have hS1:∀g,(E.eQ m).S g→E0.S g:=fun g hg=>hS g (hg.imp id (fun⟨b,hb,e⟩=>⟨b,List.mem_append.2 (Or.inl hb),e⟩))
     have hS2:∀g,(E.eQ ms').S g→E0.S g:=fun g hg=>hS g (hg.imp id (fun⟨b,hb,e⟩=>⟨b,List.mem_append.2 (Or.inr hb),e⟩))
     refine⟨?_,rT hw hB hφ h2 hS2 hr.2⟩
     have hview:view hb x false t=some (y,m)→RV E0 w y v:=fun hv=>by
      have k1:=Fb hw hB hv (RV.mN hp hr.1)
      exact RV.gZ (ew.mono (E:=E.eQ m) (E':=E0) ⟨fun _ _=>rfl,hS1⟩ (by rw[wO hv];intro b hb;cases hb) k1)
     unfold Wq at h1
     split at h1
     ·split at h1
      ·rename_i r hr';cases h1;exact hview hr'
      ·obtain⟨z,hz,e⟩:=Option.map_eq_some_iff.1 h1
       cases e
       exact RV.iY ⟨hφ,fun g hg=>hS1 g (Or.inl hg)⟩ hz hr.1
     ·split at h1
      ·rename_i z hz
       cases h1
       exact RV.iY ⟨hφ,fun g hg=>hS1 g (Or.inl hg)⟩ hz hr.1
      ·exact hview h1
   ·cases h
  ·cases h
theorem pW{φ:List (Nat×Nat)}{hb:Nat→Option aX}:∀{l:List (AV×Ty)}{ys:List AV}{ms:List Nat},qR φ hb l=some (ys,ms)→∀b∈ms,∃k,hb b=some k
 |[],ys,ms,h=>by cases h<;>grind
 |
  (x,t)::l,ys,ms,h=>by
  unfold qR at h
  split at h
  ·split at h
   ·rename_i y m ys' ms' h1 h2
    cases h
    intro b hb'
    rcases List.mem_append.1 hb' with hb'|hb'
    ·unfold Wq at h1
     split at h1
     ·split at h1
      ·rename_i r hr';cases h1;exact wL hr' b hb'
      ·obtain⟨z,hz,e⟩:=Option.map_eq_some_iff.1 h1
       cases e
       cases hb'
     ·split at h1
      ·cases h1;cases hb'
      ·exact wL h1 b hb'
    ·exact pW h2 b hb'
   ·cases h
  ·cases h
def mE(φ:List (Nat×Nat))(hb:Nat→Option aX):List (Nat×Nat)→Option (List (Nat×Option aX))
 |[]=>some []
 |
  (i,b)::l=>match hb b with
  |
   some k=>match k.iY φ,mE φ hb l with
   |some k',some m=>some ((i,some k')::m)
   |_,_=>none
  |none=>none
theorem t7{φ:List (Nat×Nat)}{hb:Nat→Option aX}:∀{l:List (Nat×Nat)}{m:List (Nat×Option aX)}{i:Nat}{k:aX},mE φ hb l=some m→(i,some k)∈m→∃b k0,(i,b)∈l∧hb b=some k0∧k0.iY φ=some k
 |[],m,i,k,h,hm=>by cases h;cases hm
 |
  (j,b)::l,m,i,k,h,hm=>by
  unfold mE at h
  split at h
  ·rename_i k0 hk0
   split at h
   ·rename_i k' m' h1 h2
    cases h
    cases hm with
    |head=>exact⟨b,k0,dx ..,hk0,h1⟩
    |
     tail _ hm=>
     obtain⟨b',k1,q1,q2,q3⟩:=t7 h2 hm
     exact⟨b',k1,dH _ q1,q2,q3⟩
   ·cases h
  ·cases h
theorem ji{c:Nat}{k:aX}:∀{l:List (Nat×Option aX)}{hp:List (Option aX)},(bJ hp l)[c]? =some (some k)→(c,some k)∈l∨(c∉wrote l∧hp[c]? =some (some k))
 |[],hp,h=>Or.inr ⟨by simp[wrote],h⟩
 |
  (b,o)::l,hp,h=>by
  rw[bJ] at h
  rcases ji h with h1|⟨h1,h2⟩
  ·grind
  ·rw[fY] at h2
   split at h2
   ·grind
   ·rename_i e
    refine Or.inr ⟨?_,h2⟩
    simp only[wrote,eN,not_or]
    grind
def oD:List Nat→Bool
 |[]=>true
 |x::l=> !eB x l&&oD l
theorem jR:∀{l:List Nat},oD l=true→l.Nodup
 |[],_=>List.nodup_nil
 |
  x::l,h=>by
  simp only[oD,bP,lF] at h
  exact List.nodup_cons.2 ⟨i4 h.1,jR h.2⟩
theorem vn:∀{l:List (Nat×Nat)}{a b:Nat},pn l a=some b→(a,b)∈l
 |[],a,b,h=>by cases h
 |
  (x,y)::l,a,b,h=>by
  unfold pn at h
  split at h
  ·rename_i e;cases h;rw[dm e];exact dx ..
  ·exact dH _ (vn h)
theorem iB:∀{l:List (Nat×Nat)}{a b:Nat},(l.map (·.1)).Nodup→(a,b)∈l→pn l a=some b
 |
  (x,y)::l,a,b,hn,hm=>by
  simp only[fp,lE] at hn
  unfold pn
  cases hm with
  |head=>simp
  |
   tail _ hm=>
   have:x≠a:=fun e=>hn.1 (e▸List.mem_map.2 ⟨(a,b),hm,rfl⟩)
   have hb:Nat.beq x a=false:=by
    cases h:Nat.beq x a<;>simp_all
   rw[hb]
   exact iB hn.2 hm
def qY(l:List (Nat×Nat)):List (Nat×Nat):=l.map fun x=>(x.2,x.1)
theorem oo{l:List (Nat×Nat)}{a b:Nat}:(a,b)∈qY l↔(b,a)∈l:=by
 unfold qY
 grind
def ja:List (Nat×aX)→Nat→Option aX
 |[],_=>none
 |(i,k)::l,x=>if Nat.beq i x then some k else ja l x
theorem JW:∀{l:List (Nat×aX)}{a:Nat}{k:aX},ja l a=some k→(a,k)∈l
 |[],a,b,h=>by cases h
 |
  (x,y)::l,a,b,h=>by
  unfold ja at h
  split at h
  ·rename_i e;cases h;rw[dm e];exact dx ..
  ·exact dH _ (JW h)
def fu(m:Nat)(out:List (Nat×aX)):List (Option aX):=bJ (List.replicate m none) (out.map fun x=>(x.1,some x.2))
theorem Di{m:Nat}:∀{out:List (Nat×aX)}{hp:List (Option aX)}{i:Nat}{k:aX},(out.map (·.1)).Nodup→(i,k)∈out→i<hp.length→(bJ hp (out.map fun x=>(x.1,some x.2)))[i]? =some (some k)
 |
  (j,k')::out,hp,i,k,hn,hm,hl=>by
  simp only[fp,lE] at hn
  rw[fp,bJ]
  cases hm with
  |
   head=>
   have hw:∀(l:List (Nat×aX)),j∉l.map (·.1)→j∉wrote (l.map fun x=>(x.1,some x.2)):=by
    intro l
    induction l with
    |nil=>simp[wrote]
    |cons x l ih=>simp_all[wrote]
   grind [ir]
  |tail _ hm=>exact Di (m:=m) hn.2 hm (by grind)
end Go.Ax
namespace Go.Ax
structure CR where
 r:AV
 ps:List (Nat×Nat)
 ns:List (Nat×Nat)
 out:List (Nat×aX)
 m:Nat
 oi:Bool:=false
 ks:List (Nat×Nat):=[]
 us:List Nat:=[]
def CR.al(cr:CR):List (Nat×Nat):=match cr.ks with
 |[]=>cr.ps
 |k::ks=>cr.ps++k::ks
theorem CR.sub{cr:CR}{x:Nat×Nat}(h:x∈cr.ps):x∈cr.al:=by
 grind [CR.al]
theorem CR.aak(cr:CR):cr.ps.Sublist cr.al:=by
 grind [CR.al]
def CR.fin(cr:CR):Bd:=if cr.oi then .oi cr.r else .ret cr.r
def Ty.BD:Ty→Bool
 | .slice _ t=>t.flat
 | .map k v=>k.flat&&v.flat
 |_=>false
theorem lB.flat{w w':World}{S S':Nat→Prop}{t:Ty}(hf:t.flat=true){v:Value}{x:t.den}(h:lB t.isAgg (Rel w S t) v x):lB t.isAgg (Rel w' S' t) v x:=lB.mono (fun _ _=>Rel.flat hf) h
theorem fq.flat{w:World}{S S':Nat→Prop}{e:TypeId}{t:Ty}{v:Value}{og:Option Nat}{x:t.den}(hf:t.BD=true)(h:fq w S e t v og x):fq w S' e t v og x:=by
 cases t with
 |
  slice bs t=>
  obtain⟨h1,h2,h3,a,cap,h4,h5,h6⟩:=h
  refine⟨h1,h2,h3,a,cap,h4,h5,h6.imp id ?_⟩
  rintro⟨g,c,k1,k2,k3,k4,k5,k6⟩
  exact⟨g,c,k1,k2,k3,k4,k5,bO.mono (fun _ _=>Rel.flat hf) k6⟩
 |
  map k u=>
  simp only[Ty.BD,bP] at hf
  obtain⟨es,h0,h1,h2,g,en,clock,h3,h4,h5,h6,h7⟩:=h
  exact⟨es,h0,h1,h2,g,en,clock,h3,h4,h5,nT.mono (fun _ _=>lB.flat hf.1) (fun _ _=>lB.flat hf.2) h6,h7⟩
 |_=>trivial
def aX.jG:aX→Bool
 | .var _ v=>v.jG
 | .tv _ _ v=>v.jG
 | .dB _ _ t _ _ v=>t.flat&&v.jG
 | .row _ _ t _=>t.flat
 | .map k v _=>k.flat&&v.flat
 | .qX _ _ _ _=>false
 | .j8 _ _ _ _ _ _ _=>false
 | .k7 _ _=>false
 | .eW _ _ t _ _ f=>t.BD&&f.isNone
 | .pmap k t _ _ f=>k.flat&&t.BD&&f.isNone
 |_=>true
theorem RM.flat{E E':Env}{w w':World}{k v:Ty}(hk:k.flat=true)(hv:v.flat=true):∀{l:List MapEntry}{xs:List (k.den×v.den)},RM E w k v l xs→RM E' w' k v l xs
 |[],[],_=>trivial
 |[],_::_,h=>h.elim
 |_::_,[],h=>h.elim
 |_::_,_::_,h=>⟨ew.flat (a:=.val k _) hk h.1,ew.flat (a:=.val v _) hv h.2.1,RM.flat hk hv h.2.2⟩
theorem RB.flat{E:Env}{w:World}{S:Nat→Prop}{b:Nat}{k:aX}(hf:k.jG=true)(h:RB E w b k):RB {E with S:=S} w b k:=by
 cases k with
 |
  var t v=>
  obtain⟨h1,h2,g,c,e,h3,h4,h5⟩:=h
  exact⟨h1,h2,g,c,e,h3,h4,RC.flat hf h5⟩
 |
  row e bs t xs=>
  obtain⟨h1,h2,h3,h4,a,cap,h5,h6,h7⟩:=h
  refine⟨h1,h2,h3,h4,a,cap,h5,h6,h7.imp id ?_⟩
  rintro⟨g,c,h7,h8,h9,h10,h11,h12⟩
  exact⟨g,c,h7,h8,h9,h10,h11,bO.mono (fun _ _=>Rel.flat hf) h12⟩
 |
  map kt vt es=>
  simp only[aX.jG,bP] at hf
  obtain⟨h1,h1',g,en,clock,h2,h3,h4,h5⟩:=h
  exact⟨h1,h1',g,en,clock,h2,h3,RM.flat hf.1 hf.2 h4,h5⟩
 |qX k v rest cur=>cases hf
 |j8 kt t es e2' kx v pr=>cases hf
 |k7 kt l=>cases hf
 |
  eW e bs t xs e2' f=>
  simp only[aX.jG,bP,Option.isNone_iff_eq_none] at hf
  obtain⟨hf,hn⟩:=hf
  subst hn
  obtain⟨h1,h2,h3,h4,h5,g,cap,c',og,q1,q2,q3,q4,q5,q6,q7,q8⟩:=h
  refine⟨h1,h2,h3,h4,h5,g,cap,c',og,q1,q2,q3,q4,q5,q6,q7,fun i x hx=>?_⟩
  grind [fq.flat]
 |
  pmap kt t es e2' f=>
  simp only[aX.jG,bP,Option.isNone_iff_eq_none] at hf
  obtain⟨⟨hk,hf⟩,hn⟩:=hf
  subst hn
  obtain⟨h1,h2,h3,g,en,clock,og,q1,q2,q3,q4,q5,q6,q7,q8⟩:=h
  refine⟨h1,h2,h3,g,en,clock,og,q1,q2,q3,q4,q5,q6,fun i x hx=>?_,fun kx v=>⟨fun hf=>(by cases hf),fun hf=>(by cases hf)⟩⟩
  obtain⟨m,r1,r2,r3,r4⟩:=q7 i x hx
  exact⟨m,r1,ew.flat (a:=.val kt _) hk r2,fun v pr hv=>(by cases hv),fun hv=>fq.flat hf (r4 (fun v pr hv=>by cases hv))⟩
 |lp l r=>exact h
 |AZ=>exact h
 |
  tv g t v=>
  obtain⟨h0,h1,h2,c,e,h4,h5⟩:=h
  exact⟨h0,h1,h2,c,e,h4,RC.flat hf h5⟩
 |
  dB e bs t xs i v=>
  simp only[aX.jG,bP] at hf
  obtain⟨h1,h2,h3,h4,h5,h6,g,cap,c,q1,q2,q3,q4,q5,q6,q7,q8,q9⟩:=h
  exact⟨h1,h2,h3,h4,h5,h6,g,cap,c,q1,q2,q3,q4,q5,q6,bO.mono (fun _ _=>Rel.flat hf.1) q7,RC.flat hf.2 q8,bO.mono (fun _ _=>Rel.flat hf.1) q9⟩
def Nq(ψ:List (Nat×Nat))(out:List (Nat×aX))(i:Nat):Option aX:=
 match ja out i with
 |some k=>k.iY ψ
 |none=>none
def qZ(ψ:List (Nat×Nat))(out:List (Nat×aX)):List (Nat×Nat)→List (Nat×Option aX)
 |[]=>[]
 |(i,b)::l=>(b,Nq ψ out i)::qZ ψ out l
theorem Fm{ψ:List (Nat×Nat)}{out:List (Nat×aX)}:∀{l:List (Nat×Nat)}{c:Nat}{k:aX},(c,some k)∈qZ ψ out l→∃i,(i,c)∈l∧Nq ψ out i=some k
 |[],c,k,h=>by cases h
 |
  (i,b)::l,c,k,h=>by
  unfold qZ at h
  rcases List.mem_cons.1 h with h|h
  ·simp only[jb] at h
   exact⟨i,by rw[h.1];exact dx ..,h.2.symm⟩
  ·obtain⟨j,h1,h2⟩:=Fm h
   exact⟨j,dH _ h1,h2⟩
theorem zN{ψ:List (Nat×Nat)}{out:List (Nat×aX)}:∀{l:List (Nat×Nat)}{i b:Nat},(i,b)∈l→b∈wrote (qZ ψ out l)
 |
  (j,c)::l,i,b,h=>by
  unfold qZ
  simp only[wrote,eN]
  cases h with
  |head=>grind
  |tail _ h=>exact Or.inr (zN h)
def iu:List Nat→List Nat→Bool
 |[],_=>true
 |x::l,m=>eB x m&&iu l m
def Fo(n:Nat):List Nat→Bool
 |[]=>true
 |x::l=>Nat.blt x n&&Fo n l
theorem vo{n:Nat}:∀{l:List Nat},Fo n l=true→∀x∈l,x<n
 |[],_,x,hx=>by cases hx
 |
  y::l,h,x,hx=>by
  simp only[Fo,bP] at h
  cases hx with
  |head=>simp_all
  |tail _ hx=>exact vo h.2 x hx
def JX:List Nat→List Nat→Bool
 |[],_=>true
 |x::l,m=> !eB x m&&JX l m
theorem Fp:∀{l m:List Nat},JX l m=true→∀x∈l,x∉m
 |[],_,_,x,hx=>by cases hx
 |
  y::l,m,h,x,hx=>by
  simp only[JX,bP,lF] at h
  cases hx with
  |head=>exact i4 h.1
  |tail _ hx=>exact Fp h.2 x hx
def vp:List (Nat×aX)→Bool
 |[]=>true
 |(_,k)::l=>k.jG&&vp l
theorem zO:∀{l:List (Nat×aX)},vp l=true→∀i k,(i,k)∈l→k.jG=true
 |[],_,i,k,h=>by cases h
 |
  (j,k')::l,hf,i,k,h=>by
  simp only[vp,bP] at hf
  cases h with
  |head=>exact hf.1
  |tail _ h=>exact zO hf.2 i k h
def Dj(cr:CR)(lent:List Nat):Bool:=
 oD (cr.al.map (·.1))&&oD ((cr.al++cr.ns).map (·.2))&&Fo 16 (cr.al.map (·.1))&&oD (cr.out.map (·.1))&&Fo cr.m (cr.out.map (·.1))&&JX lent (cr.ps.map (·.2))&&oD ((cr.al++cr.ns).map (·.1))&&
  (lent.isEmpty||(cr.r.jG&&vp cr.out))
def Nr:AV→Option (Fn×List AV×List AV)
 | .func fn fs cs=>if We fn fs cs&&fs.atoms&&cs.atoms then some (fn,fs.toList,cs.toList) else none
 | .fm f t x=>some (.func f,[.val t x],[])
 |_=>none
theorem RS{E:Env}{w:World}{a:AV}{v:Value}{fn:Fn}{fl cl:List AV}(h:Nr a=some (fn,fl,cl))(hr:RV E w a v):∃f c,v= .func fn f c∧ru E w fl f.toList∧ru E w cl c.toList∧((∃g,fn= .func g)∨(∃l,fn= .yield l)∧fl= []∧cl= []):=by
 cases a with
 |
  func fn' fs cs=>
  simp only[Nr] at h
  split at h
  ·rename_i hc
   cases h
   simp only[bP] at hc
   obtain⟨f',c',e,r1,r2,_,_⟩:=RV.atom rfl hr
   simp at e
   refine⟨f',c',e,ru.atoms hc.1.2 r1,ru.atoms hc.2 r2,?_⟩
   cases fn with
   |func g=>grind
   |
    yield l=>
    cases fs<;>simp[We] at hc
    cases cs<;>simp at hc
    exact Or.inr ⟨⟨l,rfl⟩,rfl,rfl⟩
   |_=>simp[We] at hc
  grind
 |
  fm f t x=>
  simp only[Nr,fG,jb] at h
  obtain⟨rfl,rfl,rfl⟩:=h
  obtain⟨ha,cs,e,apD⟩:=RV.atom rfl hr
  simp at e
  exact⟨#[.agg cs], #[],e,⟨RV.gZ (Or.inl ⟨ha,cs,rfl,apD⟩),trivial⟩,trivial,Or.inl ⟨f,rfl⟩⟩
 |_=>trivial
def lkM(n:String):List MS→Option MS
 |[]=>none
 |m::l=>if m.name==n then some m else lkM n l
theorem Ns{n:String}:∀{l:List MS}{m:MS},lkM n l=some m→m∈l∧m.name=n
 |[],_,h=>by cases h
 |
  x::l,m,h=>by
  simp only[lkM] at h
  split at h
  ·rename_i e;cases h;exact⟨dx ..,by simpa using e⟩
  ·obtain⟨h1,h2⟩:=Ns h;exact⟨dH _ h1,h2⟩
def JY(G:dq)(hb:Nat→Option aX)(name:String):AV→Option (FuncId×AV×Ty)
 |
  .iface t v=>match G.at t with
  |
   some td=>match lkM name td.ms with
   |
    some m=>match m.st with
    |none=>if v.plain then some (m.f,v,td.ty) else none
    |
     some (s,i,ft)=>match kN G hb s i v,G.at ft with
     |
      some a,some tf=>match zn G hb ft a with
      |some x=>if x.plain then some (m.f,x,tf.ty) else none
      |none=>none
     |_,_=>none
   |none=>none
  |none=>none
 |_=>none
def t8(P:Program)(G:dq)(gl:Ctx)(cr:CR)(ev:Operand→AV)(hb:Nat→Option aX)(c:Call):Option (jv×List Prop):=
 match c.callee with
 |
  .value cf=>match Nr (ev cf) with
  |
   some (fn,fl,cl)=>
   match qR (qY cr.al) hb (fl.map (fun x=>(x,Ty.unit))++(c.args.toList.zip c.argTypes.toList).map (xr G ev)++cl.map (fun x=>(x,Ty.unit))),mE (qY cr.al) hb cr.ps,cr.r.iY (cr.al++cr.ns) with
   |some (L,lent),some ins,some r'=>if Nat.beq c.args.toList.length c.argTypes.toList.length&&Dj cr lent then
    some (⟨r',qZ (cr.al++cr.ns) cr.out (cr.ps++cr.ns),cr.ns.map (·.2),[]⟩,[Nh P gl fn L (bJ (List.replicate cr.m none) ins) cr.fin (fu cr.m cr.out)]) else none
   |_,_,_=>none
  |_=>none
 |
  .invoke rv name=>match JY G hb name (ev rv) with
  |
   some (f,x,xt)=>
   match qR (qY cr.al) hb ((x,xt)::(c.args.toList.zip c.argTypes.toList).map (xr G ev)),mE (qY cr.al) hb cr.ps,cr.r.iY (cr.al++cr.ns) with
   |some (L,lent),some ins,some r'=>if Nat.beq c.args.toList.length c.argTypes.toList.length&&Dj cr lent then
    some (⟨r',qZ (cr.al++cr.ns) cr.out (cr.ps++cr.ns),cr.ns.map (·.2),[]⟩,[Nh P gl (.func f) L (bJ (List.replicate cr.m none) ins) cr.fin (fu cr.m cr.out)]) else none
   |_,_,_=>none
  |_=>none
 |_=>none
def Env.to(E:Env)(ps:List (Nat×Nat))(S:Nat→Prop):Env where
 g:=fun i=>match pn ps i with|some b=>E.g b|none=>none
 sv:=fun i=>match pn ps i with|some b=>E.sv b|none=>undef
 bt:=fun i=>match pn ps i with|some b=>E.bt b|none=>.unit
 S:=S
 P:=fun i=>match pn ps i with|some b=>E.P b|none=>fun _=>False
def Env.back(E E1:Env)(sns sall:List (Nat×Nat))(S:Nat→Prop):Env where
 g:=fun b=>match pn sns b with|some i=>E1.g i|none=>E.g b
 sv:=fun b=>match pn sns b with|some i=>E1.sv i|none=>E.sv b
 bt:=fun b=>match pn sns b with|some i=>E1.bt i|none=>E.bt b
 S:=S
 P:=fun b=>match pn sall b with|some i=>E1.P i|none=>E.P b
theorem zP{l:List (Nat×Nat)}{a:Nat}(h:a∉l.map (·.1)):pn l a=none:=by
 cases hl:pn l a with
 |none=>rfl
 |some b=>exact absurd (List.mem_map.2 ⟨(a,b),vn hl,rfl⟩) h
theorem Wr{l m:List (Nat×Nat)}{a b:Nat}(h:pn (l++m) a=some b):pn l a=some b∨(a∉l.map (·.1)∧pn m a=some b):=by
 induction l with
 |nil=>grind
 |
  cons x l ih=>
  obtain⟨x,y⟩:=x
  simp only[List.cons_append,pn] at h ⊢
  split at h
  ·grind
  ·rename_i e
   rw[aB e]
   rcases ih h with h1|⟨h1,h2⟩
   ·grind
   ·refine Or.inr ⟨?_,h2⟩
    simp only[fp,eN,not_or]
    exact⟨fun e'=>e (by simp_all),h1⟩
section
variable{P:Program} {gl:Ctx} {σ:St} {E:Env} {a:Act} {w:World} {hb:Nat→Option aX} {cr:CR} {lent:List Nat}
theorem yk(h:dE gl σ E a w)(hB:HB hb σ.hp)(hlent:∀b∈lent,∃k,hb b=some k){ins:List (Nat×Option aX)}(nU:mE (qY cr.al) hb cr.ps=some ins)(iq:Dj cr lent=true):
 (∀b c,pn (qY cr.al) b=some c→(E.to cr.al (E.eQ lent).S).g c=E.g b∧(E.to cr.al (E.eQ lent).S).sv c=E.sv b∧(E.to cr.al (E.eQ lent).S).bt c=E.bt b)∧
 HW gl (E.to cr.al (E.eQ lent).S) w (bJ (List.replicate cr.m none) ins):=by
 simp only[Dj,bP] at iq
 obtain⟨⟨⟨⟨⟨⟨⟨o1,o2⟩,o3⟩,o4⟩,o5⟩,o6⟩,o7⟩,o8⟩:=iq
 have n1:=jR o1
 have n2:=jR o2
 rw[qN] at n2
 have n2':=(List.nodup_append.1 n2).1
 have at0:∀b c,pn (qY cr.al) b=some c→(E.to cr.al (E.eQ lent).S).g c=E.g b∧(E.to cr.al (E.eQ lent).S).sv c=E.sv b∧(E.to cr.al (E.eQ lent).S).bt c=E.bt b:=by
  grind [iB,oo,vn,Env.to]
 refine⟨at0,?_⟩
 have kp:di E w (E.to cr.al (E.eQ lent).S) w:=⟨fun _ _=>rfl,fun g hg=>Or.inl hg⟩
 have rep:∀(b:Nat)(k:aX),(List.replicate cr.m (none:Option aX))[b]? ≠some (some k):=by
  grind
 have get:∀(i:Nat)(k:aX),(bJ (List.replicate cr.m none) ins)[i]? =some (some k)→∃b k0,(i,b)∈cr.ps∧hb b=some k0∧k0.iY (qY cr.al)=some k:=by
  intro i k hk
  rcases ji hk with h1|⟨_,h2⟩
  ·exact t7 nU h1
  grind
 have gat:∀i b,(i,b)∈cr.ps→(E.to cr.al (E.eQ lent).S).g i=E.g b∧(E.to cr.al (E.eQ lent).S).sv i=E.sv b∧(E.to cr.al (E.eQ lent).S).bt i=E.bt b:=by
  intro i b hib
  have:=iB n1 (CR.sub hib)
  simp[Env.to,this]
 have hasAt:∀i b,(i,b)∈cr.ps→∀g,(E.to cr.al (E.eQ lent).S).has i g↔E.has b g:=by
  intro i b hib g
  have:=iB n1 (CR.sub hib)
  simp[Env.has,Env.to,this]
 refine⟨?_,?_,?_,?_,?_,?_⟩
 ·intro i k hk
  obtain⟨b,k0,h1,h2,h3⟩:=get i k hk
  exact RB.iY ⟨at0,kp.S⟩ (gat i b h1) (fun _ g hp=>by have:=iB n1 (CR.sub h1);simpa[Env.to,this] using hp) h3 (h.hw.eJ b k0 (hB b k0 h2))
 ·intro i i' k k' g hi hi' g1 g2
  obtain⟨b,k0,h1,h2,h3⟩:=get i k hi
  obtain⟨b',k0',h1',h2',h3'⟩:=get i' k' hi'
  have e:=h.hw.gY b b' k0 k0' g (hB _ _ h2) (hB _ _ h2') ((hasAt i b h1 g).1 g1) ((hasAt i' b' h1' g).1 g2)
  grind [iB,qY,oo,CR.sub]
 ·intro i k g hi g1 hs
  obtain⟨b,k0,h1,h2,h3⟩:=get i k hi
  have g1:=(hasAt i b h1 g).1 g1
  rcases hs with hs|⟨c,hc,hg⟩
  ·exact h.hw.fZ b k0 g (hB _ _ h2) g1 hs
  ·obtain⟨k1,hk1⟩:=hlent c hc
   have e:=h.hw.gY c b k1 k0 g (hB _ _ hk1) (hB _ _ h2) (Or.inl hg) g1
   subst e
   exact Fp o6 c hc (List.mem_map.2 ⟨(i,c),h1,rfl⟩)
 ·rintro g (hg|⟨b,hb',e⟩)
  ·exact h.hw.slt g hg
  ·obtain⟨k,hk⟩:=hlent b hb'
   exact cU.below h.hw ⟨b,k,hB b k hk,Or.inl e⟩
 ·exact h.hw.kz kp
 ·intro i k g hi g1
  obtain⟨b,k0,h1,h2,h3⟩:=get i k hi
  exact h.hw.below (hB _ _ h2) ((hasAt i b h1 g).1 (Or.inr g1))
theorem oP(h:dE gl σ E a w)(hB:HB hb σ.hp)(_hlent:∀b∈lent,∃k,hb b=some k){ins:List (Nat×Option aX)}(nU:mE (qY cr.al) hb cr.ps=some ins)(iq:Dj cr lent=true)(hfr:∀b∈cr.ns.map (·.2),σ.fresh b)
 {E1:Env} {w1:World} (hW:HW gl E1 w1 (fu cr.m cr.out)) (hX:Ext gl.md (cU (bJ (List.replicate cr.m none) ins) (E.to cr.al (E.eQ lent).S)) (E.to cr.al (E.eQ lent).S) w (cU (fu cr.m cr.out) E1) E1 w1)
 {v:Value} {r':AV} (hr':cr.r.iY (cr.al++cr.ns)=some r') (hR:RV E1 w1 cr.r v):
 ∃E',dE gl {σ with hp:=bJ σ.hp (qZ (cr.al++cr.ns) cr.out (cr.ps++cr.ns))} E' a w1∧RV E' w1 r' v∧Ext gl.md (cU σ.hp E) E w (cU (bJ σ.hp (qZ (cr.al++cr.ns) cr.out (cr.ps++cr.ns))) E') E' w1:=by
 have hok0:=iq
 simp only[Dj,bP] at iq
 obtain⟨⟨⟨⟨⟨⟨⟨o1,o2⟩,o3⟩,o4⟩,o5⟩,o6⟩,o7⟩,o8⟩:=iq
 have n1:=jR o1
 have n2:=jR o2
 rw[qN] at n2
 have n2a:=(List.nodup_append.1 n2).1
 have n2b:=(List.nodup_append.1 n2).2.1
 have n4:=jR o4
 have nall0:((qY (cr.al++cr.ns)).map (·.1)).Nodup:=by
  grind [qY]
 have nall:((qY (cr.ps++cr.ns)).map (·.1)).Nodup:=
  List.Nodup.sublist (List.Sublist.map _ (List.Sublist.map _ (List.Sublist.append cr.aak (List.Sublist.refl _)))) nall0
 have uniq:∀i j b,(i,b)∈cr.ps++cr.ns→(j,b)∈cr.ps++cr.ns→i=j:=by
  intro i j b h1 h2
  have q1:=iB nall (oo.2 h1)
  have q2:=iB nall (oo.2 h2)
  grind
 have disj:∀b,b∈cr.al.map (·.2)→b∉cr.ns.map (·.2):=fun b h1 h2=>(List.nodup_append.1 n2).2.2 b h1 b h2 rfl
 let S':Nat→Prop:=if lent.isEmpty then E1.S else E.S
 let E':Env:=E.back E1 (qY cr.ns) (qY (cr.ps++cr.ns)) S'
 have hS1:lent= []→S'=E1.S:=fun e=>by grind
 have hS2:lent≠[]→S'=E.S:=fun e=>by
  grind
 have inOwn:∀g,cU (bJ (List.replicate cr.m none) ins) (E.to cr.al (E.eQ lent).S) g→∃i b k,(i,b)∈cr.ps∧hb b=some k∧E.has b g:=by
  rintro g ⟨i,k,hik,hg⟩
  rcases ji hik with q1|⟨_,q2⟩
  ·obtain⟨b,k0,z1,z2,z3⟩:=t7 nU q1
   refine⟨i,b,k0,z1,z2,?_⟩
   have:=iB n1 (CR.sub z1)
   simpa[Env.has,Env.to,this] using hg
  grind
 have inOwn':∀g,cU (bJ (List.replicate cr.m none) ins) (E.to cr.al (E.eQ lent).S) g→cU σ.hp E g:=fun g hg=>by
  obtain⟨i,b,k,_,z2,z3⟩:=inOwn g hg
  exact⟨b,k,hB b k z2,z3⟩
 have heapS:∀g,E.S g→w1.heap[g]? =w.heap[g]? :=fun g hg=>hX.kept g (h.hw.slt g hg) (fun ho=>by
  obtain⟨i,b,k,_,z2,z3⟩:=inOwn g ho
  exact h.hw.fZ b k g (hB b k z2) z3 hg)
 have SS':∀g,E.S g→S' g:=fun g hg=>by
  by_cases hl:lent= []
  ·rw[hS1 hl];exact hX.sle g (Or.inl hg)
  grind
 have S'1:∀g,S' g→E1.S g:=fun g hg=>by
  by_cases hl:lent= []
  ·grind
  ·rw[hS2 hl] at hg;exact hX.sle g (Or.inl hg)
 have kp:di E w E' w1:=⟨heapS,SS'⟩
 have gns:∀i b,(i,b)∈cr.ns→E'.g b=E1.g i∧E'.sv b=E1.sv i∧E'.bt b=E1.bt i:=fun i b hm=>by
  have:=iB (l:=qY cr.ns) (by grind [qY]) (oo.2 hm)
  simp[E',Env.back,this]
 have gold:∀b,b∉cr.ns.map (·.2)→E'.g b=E.g b∧E'.sv b=E.sv b∧E'.bt b=E.bt b:=fun b hm=>by
  grind [qY,zP,Env.back]
 have gps:∀i b,(i,b)∈cr.al→E'.g b=E1.g i∧E'.sv b=E1.sv i∧E'.bt b=E1.bt i:=fun i b hm=>by
  have hi:i<16:=vo o3 i (List.mem_map.2 ⟨(i,b),hm,rfl⟩)
  obtain⟨p1,p2,p3⟩:=hX.LK i hi
  obtain⟨q1,q2,q3⟩:=gold b (disj b (List.mem_map.2 ⟨(i,b),hm,rfl⟩))
  have:=iB n1 hm
  grind [Env.to]
 have gall0:∀i b,(i,b)∈cr.al++cr.ns→E'.g b=E1.g i∧E'.sv b=E1.sv i∧E'.bt b=E1.bt i:=fun i b hm=>(List.mem_append.1 hm).elim (gps i b) (gns i b)
 have gall:∀i b,(i,b)∈cr.ps++cr.ns→E'.g b=E1.g i∧E'.sv b=E1.sv i∧E'.bt b=E1.bt i:=fun i b hm=>gall0 i b ((List.mem_append.1 hm).elim (fun h=>List.mem_append.2 (Or.inl (CR.sub h))) (fun h=>List.mem_append.2 (Or.inr h)))
 have hasAll:∀i b,(i,b)∈cr.ps++cr.ns→∀g,E'.has b g↔E1.has i g:=fun i b hm g=>by
  have:=iB nall (oo.2 hm)
  unfold Env.has
  rw[(gall i b hm).1]
  simp[E',Env.back,this]
 have hasOld:∀b,b∉cr.ns.map (·.2)→b∉cr.ps.map (·.2)→∀g,E'.has b g↔E.has b g:=fun b h1 h2 g=>by
  have:pn (qY (cr.ps++cr.ns)) b=none:=zP (by
   simp only[qY,List.map_map,Function.comp_def,qN,j5,not_or]
   grind)
  unfold Env.has
  rw[(gold b h1).1]
  simp[E',Env.back,this]
 have rn:Rn (cr.al++cr.ns) {E1 with S:=S'} E':=⟨fun i b hl=>gall0 i b (vn hl),fun g hg=>hg⟩
 have BD:∀i k,(i,k)∈cr.out→RB {E1 with S:=S'} w1 i k:=fun i k hm=>by
  have hlt:i<(List.replicate cr.m (none:Option aX)).length:=by rw[gn];exact vo o5 i (List.mem_map.2 ⟨(i,k),hm,rfl⟩)
  have hb1:=hW.eJ i k (Di (m:=cr.m) n4 hm hlt)
  by_cases hl:lent= []
  ·rw[hS1 hl];exact hb1
  ·have hf:vp cr.out=true:=by
    grind
   exact RB.flat (zO hf i k hm) hb1
 have outMem:∀c k,(c,some k)∈qZ (cr.al++cr.ns) cr.out (cr.ps++cr.ns)→∃i k0,(i,c)∈cr.ps++cr.ns∧(i,k0)∈cr.out∧k0.iY (cr.al++cr.ns)=some k:=fun c k hm=>by
  obtain⟨i,z1,z2⟩:=Fm hm
  unfold Nq at z2
  split at z2
  ·rename_i k0 hk0;exact⟨i,k0,z1,JW hk0,z2⟩
  grind
 have outAt1:∀i k,(i,k)∈cr.out→(fu cr.m cr.out)[i]? =some (some k):=fun i k hm=>
  Di (m:=cr.m) n4 hm (by rw[gn];exact vo o5 i (List.mem_map.2 ⟨(i,k),hm,rfl⟩))
 have oldNot:∀c,c∉wrote (qZ (cr.al++cr.ns) cr.out (cr.ps++cr.ns))→c∉cr.ns.map (·.2)∧c∉cr.ps.map (·.2):=fun c hc=>by
  grind [zN]
 have notIn:∀c k g,σ.hp[c]? =some (some k)→c∉cr.ps.map (·.2)→E.has c g→¬cU (bJ (List.replicate cr.m none) ins) (E.to cr.al (E.eQ lent).S) g:=fun c k g hc hn hg ho=>by
  obtain⟨i,b,k',z1,z2,z3⟩:=inOwn g ho
  have e:=h.hw.gY c b k k' g hc (hB b k' z2) hg z3
  grind
 have on':∀ids:List Nat,(∀b∈ids,b∈σ.ids)→E.on E' ids:=fun ids hids b hb'=>gold b (fun hm=>(hfr b hm).1 (hids b hb'))
 have hwn:HW gl E' w1 (bJ σ.hp (qZ (cr.al++cr.ns) cr.out (cr.ps++cr.ns))):=by
  refine⟨?_,?_,?_,?_,h.hw.kz kp,?_⟩
  ·intro c k hc
   rcases ji hc with h1|⟨h1,h2⟩
   ·obtain⟨i,k0,z1,z2,z3⟩:=outMem c k h1
    exact RB.iY rn (gall i c z1) (fun _ g hp=>by have:=iB nall (oo.2 z1);simpa[E',Env.back,this] using hp) z3 (BD i k0 z2)
   ·obtain⟨q1,q2⟩:=oldNot c h1
    refine RB.mono kp ?_ ?_ (fun _ g hp=>by
     have:pn (qY (cr.ps++cr.ns)) c=none:=zP (by
      simp only[qY,List.map_map,Function.comp_def,qN,j5,not_or]
      grind)
     simpa[E',Env.back,this] using hp) (h.hw.eJ c k h2)
    ·intro b hb'
     rcases List.mem_cons.1 hb' with e|hb'
     ·grind
     ·exact gold b (fun hm=>(hfr b hm).1 (St.CZ h2 b hb'))
    ·intro g hg
     exact hX.kept g (cU.below h.hw ⟨c,k,h2,hg⟩) (notIn c k g h2 q2 hg)
  ·intro c c' k k' g hc hc' g1 g2
   rcases ji hc with h1|⟨h1,h2⟩<;>rcases ji hc' with h1'|⟨h1',h2'⟩
   ·obtain⟨i,k0,z1,z2,z3⟩:=outMem c k h1
    obtain⟨i',k0',z1',z2',z3'⟩:=outMem c' k' h1'
    have e:=hW.gY i i' k0 k0' g (outAt1 i k0 z2) (outAt1 i' k0' z2') ((hasAll i c z1 g).1 g1) ((hasAll i' c' z1' g).1 g2)
    subst e
    have o7':((cr.ps++cr.ns).map (·.1)).Nodup:=List.Nodup.sublist (List.Sublist.map _ (List.Sublist.append cr.aak (List.Sublist.refl _))) (jR o7)
    have q1:=iB o7' z1
    have q2:=iB o7' z1'
    grind
   ·obtain⟨i,k0,z1,z2,z3⟩:=outMem c k h1
    obtain⟨q1,q2⟩:=oldNot c' h1'
    have g1:=(hasAll i c z1 g).1 g1
    have g2:=(hasOld c' q1 q2 g).1 g2
    rcases hX.own g ⟨i,k0,outAt1 i k0 z2,g1⟩ with y|y
    ·grind
    ·have:=cU.below h.hw ⟨c',k',h2',g2⟩;omega
   ·obtain⟨i,k0,z1,z2,z3⟩:=outMem c' k' h1'
    obtain⟨q1,q2⟩:=oldNot c h1
    have g2:=(hasAll i c' z1 g).1 g2
    have g1:=(hasOld c q1 q2 g).1 g1
    rcases hX.own g ⟨i,k0,outAt1 i k0 z2,g2⟩ with y|y
    ·grind
    ·have:=cU.below h.hw ⟨c,k,h2,g1⟩;omega
   ·exact h.hw.gY c c' k k' g h2 h2' ((hasOld c (oldNot c h1).1 (oldNot c h1).2 g).1 g1) ((hasOld c' (oldNot c' h1').1 (oldNot c' h1').2 g).1 g2)
  ·intro c k g hc g1 hs
   rcases ji hc with h1|⟨h1,h2⟩
   ·obtain⟨i,k0,z1,z2,z3⟩:=outMem c k h1
    exact hW.fZ i k0 g (outAt1 i k0 z2) ((hasAll i c z1 g).1 g1) (S'1 g hs)
   ·obtain⟨q1,q2⟩:=oldNot c h1
    have g1:=(hasOld c q1 q2 g).1 g1
    by_cases hl:lent= []
    ·have hs':E1.S g:=S'1 g hs
     rcases hX.rI g hs' with y|y|y
     ·rcases y with y|⟨b,hb',_⟩
      ·exact h.hw.fZ c k g h2 g1 y
      grind
     ·grind
     ·have:=cU.below h.hw ⟨c,k,h2,g1⟩;omega
    ·have hs':E.S g:=by have:=hs;change S' g at this;grind
     exact h.hw.fZ c k g h2 g1 hs'
  ·intro g hg;exact hW.slt g (S'1 g hg)
  ·intro c k g hc g1
   rcases ji hc with h1|⟨h1,h2⟩
   ·obtain⟨i,k0,z1,z2,z3⟩:=outMem c k h1
    exact hW.below (outAt1 i k0 z2) ((hasAll i c z1 g).1 (Or.inr g1))
   ·obtain⟨q1,q2⟩:=oldNot c h1
    exact Nat.lt_of_lt_of_le (h.hw.below h2 ((hasOld c q1 q2 g).1 (Or.inr g1))) hX.size
 refine⟨E',h.carry kp (on' _ (fun b hb'=>hb')) hwn,?_,hX.os,hX.tape,hX.output,hX.size,?_,SS',?_,?_,?_⟩
 ·have hR':RV {E1 with S:=S'} w1 cr.r v:=by
   by_cases hl:lent= []
   ·rw[hS1 hl];exact hR
   ·have hf:cr.r.jG=true:=by
     grind
    exact RV.flat hf hR
  exact RV.iY rn hr' hR'
 ·intro g hg hn
  exact hX.kept g hg (fun ho=>hn (inOwn' g ho))
 ·intro g hg
  by_cases hl:lent= []
  ·rcases hX.rI g (S'1 g hg) with y|y|y
   ·rcases y with y|⟨b,hb',_⟩<;>grind
   ·grind
   grind
  ·have hs':E.S g:=by have:=hg;change S' g at this;grind
   grind
 ·rintro g ⟨c,k,hc,hg⟩
  rcases ji hc with h1|⟨h1,h2⟩
  ·obtain⟨i,k0,z1,z2,z3⟩:=outMem c k h1
   have hg:=(hasAll i c z1 g).1 hg
   exact(hX.own g ⟨i,k0,outAt1 i k0 z2,hg⟩).imp (inOwn' g) id
  ·have hg:=(hasOld c (oldNot c h1).1 (oldNot c h1).2 g).1 hg
   exact Or.inl ⟨c,k,h2,hg⟩
 ·intro b hb'
  exact gold b (fun hm=>by have:=(hfr b hm).2.2;omega)
end
theorem Nt{P:Program}{G:dq}(T:cQ P G){gl:Ctx}{E:Env}{w:World}{hp:List (Option aX)}(hw:HW gl E w hp){hb:Nat→Option aX}(hB:HB hb hp){name:String}{a x:AV}{xt:Ty}{f:FuncId}{v:Value}(h:JY G hb name a=some (f,x,xt))(hr:RV E w a v):
 ∃r,RV E w x r∧∀args,(callMethod v name args).run P w=(callFunc f (#[r]++args)).run P w:=by
 unfold JY at h
 split at h
 ·rename_i t u
  split at h
  ·rename_i td htd
   split at h
   ·rename_i m hm
    obtain⟨hm1,hm2⟩:=Ns hm
    obtain⟨ii,r,f',pr,hi,hr1,hr2,hr3,hr4⟩:=T.agQ htd hm1
    subst hr3
    rw[hm2] at hr1
    obtain⟨y,e,hy⟩:=RV.atom rfl hr
    simp at e
    subst e
    have hy0:ew E w u y:=by
     trivial
    have hsz:∃n,P.types.size+Made.depth=n+1:=by
     simp_all[Made.depth]
    obtain⟨n,hn⟩:=hsz
    split at h
    ·rename_i hst
     rw[hst] at hr4
     split at h
     ·cases h
      refine⟨y,RV.gZ hy0,fun args=>?_⟩
      have hpath:r.path= #[]:=by
       grind [zi]
      obtain⟨i',d,_,hd,_⟩:=T.info htd
      rw[hpath] at hr4
      simp only[zi,hd] at hr4
      have hrec:(receiverAt t (.val y) pr (if r.path.isEmpty then some ((name.splitOn ".").getLastD name) else none)).run P w= .ok y w:=by
       unfold receiverAt
       cases d<;>cases pr<;>simp[C0] at hr4<;>simp[underlying,hd,Place.get]
      simp_all[callMethod,method,typeInfo,follow]
     grind
    ·rename_i s i ft hst
     rw[hst] at hr4
     split at h
     ·rename_i a tf ha htf
      split at h
      ·rename_i x' hx
       split at h
       ·cases h
        obtain⟨va,q1,q2⟩:=rL T hw hB (RV.gZ hy0) ha
        obtain⟨vx,q3,q4⟩:=wH T hw hB q2 hx
        refine⟨vx,q4,fun args=>?_⟩
        obtain⟨st,hpath⟩:∃st,r.path= #[st]:=by
         cases hp:r.path.toList with
         |nil=>rw[hp] at hr4;trivial
         |
          cons st l=>
          cases l with
          |nil=>grind
          |cons _ _=>rw[hp] at hr4;trivial
        rw[hpath] at hr4
        simp only[zi,bP,lF] at hr4
        obtain⟨⟨⟨⟨⟨p1,p2⟩,p3⟩,p4⟩,p5⟩,p6⟩:=hr4
        have p3:=dm p3
        have p4:=dm p4
        subst p1
        split at p5
        ·rename_i fs d hs hd
         simp only[bP,lF] at p5
         obtain⟨p5,p7⟩:=p5
         split at p7
         ·rename_i fl hfl
          have p7:=dm p7
          have hfa:∃ad b,y= .pointer (some ad)∧va= .pointer (some b)∧(fieldPlace ad fl).run P w= .ok b w:=by
           have hyp:∃ad,y= .pointer (some ad):=by
            unfold kN at ha
            split at ha
            ·obtain⟨g,_,e,_⟩:=RV.atom rfl (RV.gZ hy0);grind
            ·obtain⟨b',o',cs,e,_⟩:=RV.atom rfl (RV.gZ hy0);grind
            grind
           obtain⟨ad,rfl⟩:=hyp
           have hvp:∃b,va= .pointer (some b):=by
            have ht:(∃b' p',a= .ptr b' p')∨∃u' x',a= .dk u' x':=by
             unfold kN at ha
             grind
            rcases ht with⟨b',p',rfl⟩|⟨u',x',rfl⟩
            ·obtain⟨g,_,e,_⟩:=RV.atom rfl q2;grind
            ·obtain⟨b'',o',cs,e,_⟩:=RV.atom rfl q2;grind
           obtain⟨b,rfl⟩:=hvp
           refine⟨ad,b,rfl,rfl,?_⟩
           simp only[Instr.fieldAt,underlying,Sem.run_bind,run_program,Result.andThen_ok,hs,Sem.run_pure,hfl,Instr.sureAddr] at q1
           cases hfp:(fieldPlace ad fl).run P w<;>simp_all
          obtain⟨ad,b,rfl,rfl,hfp⟩:=hfa
          have hld:(loadVar ft b).run P w= .ok vx w:=by trivial
          have hrec:∀wr,(receiverAt ft (.var b) false wr).run P w= .ok vx w:=by
           intro wr
           unfold receiverAt
           cases d<;>simp[C0] at p5<;>simp[underlying,hd,Place.get,hld]
          have hfol:(follow [st] t (.val (.pointer (some ad)))).run P w= .ok (ft,.var b) w:=by
           simp only[follow,underlying,Sem.run_bind,run_program,Result.andThen_ok,p3,hs,Sem.run_pure,p4,hfl,p2,cC,Place.get,asAddr,hfp,p7]
          simp_all[callMethod,method,typeInfo]
         grind
        grind
       grind
      grind
     grind
   grind
  grind
 grind
theorem zQ{P:Program}{G:dq}(T:cQ P G){gl:Ctx}{σ:St}{E:Env}{a:Act}{w:World}(h:dE gl σ E a w){o:Oper}{c:Call}(hop:o.op= .call c){ev:Operand→AV}{hb:Nat→Option aX}(hB:HB hb σ.hp){cr:CR}{r:jv}
 (hev:∀x∈o.op.operands.toList,RV E w (ev x) (a.eval x)) {ob:List Prop} (he:t8 P G gl cr ev hb c=some (r,ob)) (hvc:∀p∈ob,p) (hfr:∀b∈r.fr,σ.fresh b) {K:Act→World→Prop} {Q:Exit→Act→World→Prop}
 (hK:cr.oi=false→∀E' v w',dE gl {σ with hp:=bJ σ.hp r.hw} E' a w'→RV E' w' r.v v→Ext gl.md (cU σ.hp E) E w (cU (bJ σ.hp r.hw) E') E' w'→K (a.put o.dst v) w')
 (hQ:cr.oi=true→∀E' v w',dE gl {σ with hp:=bJ σ.hp r.hw} E' a w'→RV E' w' r.v v→Ext gl.md (cU σ.hp E) E w (cU (bJ σ.hp r.hw) E') E' w'→Q (.panic [{v:=v,recovered:=false}]) a w'):o.wpIn (Wd gl) 0 P a w K Q:=by
 unfold t8 at he
 split at he
 ·rename_i cf hcf
  split at he
  ·rename_i fn fl cl hfv
   split at he
   ·rename_i L lent ins r' hL nU hr'
    split at he
    ·rename_i hcond
     cases he
     simp only[bP] at hcond
     obtain⟨hlen,iq⟩:=hcond
     have hfc:=hvc _ (dx ..)
     have hopd:o.op.operands= #[cf]++c.args:=by grind [Op.operands,Call.operands]
     have hcfv:=hev cf (by grind)
     obtain⟨f',c',e,r1,r2,hfn0⟩:=RS hfv hcfv
     have hargs:ru E w (c.args.toList.map ev) (c.args.toList.map a.eval):=ru.map _ (fun x hx=>hev x (by grind))
     have hall:=ru.append (ru.append r1 hargs) r2
     have hmap:(fl.map (fun x=>(x,Ty.unit))++(c.args.toList.zip c.argTypes.toList).map (xr G ev)++cl.map (fun x=>(x,Ty.unit))).map (·.1)=fl++c.args.toList.map ev++cl:=by
      simp only[qN,List.map_map]
      have e1:∀l:List AV,l.map ((fun x:AV×Ty=>x.1)∘fun x=>(x,Ty.unit))=l:=by intro l;induction l<;>simp_all
      have e2:∀(l:List Operand)(m:List TypeId),l.length=m.length→(l.zip m).map ((fun x:AV×Ty=>x.1)∘xr G ev)=l.map ev:=by
       intro l
       induction l with
       |nil=>intro m _;rfl
       |
        cons x l ih=>
        intro m hm
        cases m with
        |nil=>grind
        |
         cons y m=>
         simp only[List.zip_cons_cons,fp]
         rw[ih m (by grind)];rfl
      grind [dm]
     have hlent:=pW hL
     obtain⟨hφ,hw1⟩:=yk h hB hlent nU iq
     have hv:=rT h.hw hB hφ hL (fun g hg=>hg) (by rw[hmap];omega)
     unfold Oper.wpIn
     refine⟨fun _ _=>trivial,?_⟩
     rw[Oper.semAt_eq _ _ _ (by grind)]
     have post:∀(ed:Ending)(w':World),(∃E',C6 E' w' cr.fin ed∧HW gl E' w' (fu cr.m cr.out)∧Ext gl.md (cU (bJ (List.replicate cr.m none) ins) (E.to cr.al (E.eQ lent).S)) (E.to cr.al (E.eQ lent).S) w (cU (fu cr.m cr.out) E') E' w')→
      (match ed,w' with
       | .returned v,w''=>K (a.put o.dst v) w''
       | .panicked chain,w''=>Q (.panic chain) a w''
       | .outgrown,_=>LetsOut Q):=by
      rintro ed w' ⟨E',hR,hW',hX⟩
      cases ed with
      |
       returned v=>
       cases apm:cr.oi with
       |true=>simp only[CR.fin,apm,cC] at hR;trivial
       |
        false=>
        simp only[CR.fin,apm,dv,dc] at hR
        obtain⟨E2,g1,g2,g3⟩:=oP h hB hlent nU iq hfr hW' hX hr' hR
        grind
      |
       panicked ch=>
       cases apm:cr.oi with
       |
        true=>
        simp only[CR.fin,apm,cC] at hR
        obtain⟨u,e,hR⟩:=hR
        obtain⟨E2,g1,g2,g3⟩:=oP h hB hlent nU iq hfr hW' hX hr' (RV.gZ hR)
        grind
       |false=>simp only[CR.fin,apm,dv,dc] at hR;trivial
      |outgrown=>cases apm:cr.oi<;>simp only[CR.fin,apm,cC,dv,dc] at hR<;>exact hR.elim
     cases fn with
     |
      func f=>
      obtain⟨apg,hfn⟩:=hfc
      have apa:(execOp a.eval o).run P w= .ok (.enter f (f'.toList++c.args.toList.map a.eval++c'.toList).toArray) w:=by
       have:=apg (f'++c.args.map a.eval++c') w
       simp only[execOp,hop,resolve,hcf,e,Sem.run_bind,Deferred.ofValue,Sem.run_pure,Result.andThen_ok,invoke]
       rw[this]
       congr 2
       grind
      rw[apa]
      simp only[Oper.uponIn]
      refine⟨fun h=>(by cases h),?_⟩
      have h1:CallsIn Fence.wide 0 P f _ w _:=callsIn_wide.2 (hfn _ w _ hv hw1)
      exact CallsIn.mono (F:=Wd gl) h1 post
     |
      yield l=>
      rcases hfn0 with⟨g,hg⟩|⟨_,e1,e2⟩
      ·cases hg
      subst e1;subst e2
      have hn:∀{vs:List Value},ru E w [] vs→vs= []:=by intro vs h;cases vs with
       |nil=>rfl
       |cons _ _=>trivial
      have hf':f'= #[]:=by grind
      have hc':c'= #[]:=by grind
      subst hf';subst hc'
      obtain⟨fn,tmps,assign,body,hy,hr⟩:=hfc _ w _ hv hw1
      have apa:(execOp a.eval o).run P w= .ok (.round l fn tmps assign body) w:=by
       simp only[execOp,hop,resolve,hcf,e,Sem.run_bind,Deferred.ofValue,Sem.run_pure,Result.andThen_ok,invoke]
       rw[←hy]
       congr 2
       apply ni
       simp
      rw[apa]
      simp only[Oper.uponIn]
      refine⟨fun h=>(by cases h),?_⟩
      exact RoundIn.mono (F:=Wd gl) hr post
     |_=>grind
    grind
   grind
  grind
 ·rename_i rv name hcf
  split at he
  ·rename_i f x xt hfv
   split at he
   ·rename_i L lent ins r' hL nU hr'
    split at he
    ·rename_i hcond
     cases he
     simp only[bP] at hcond
     obtain⟨hlen,iq⟩:=hcond
     have hfc:=hvc _ (dx ..)
     have hopd:o.op.operands= #[rv]++c.args:=by grind [Op.operands,Call.operands]
     obtain⟨rc,hrc,hcm⟩:=Nt T h.hw hB hfv (hev rv (by grind))
     have hargs:ru E w (c.args.toList.map ev) (c.args.toList.map a.eval):=ru.map _ (fun x hx=>hev x (by grind))
     have hall:ru E w (x::c.args.toList.map ev) (rc::c.args.toList.map a.eval):=⟨hrc,hargs⟩
     have hmap:((x,xt)::(c.args.toList.zip c.argTypes.toList).map (xr G ev)).map (·.1)=x::c.args.toList.map ev:=by
      simp only[fp,List.map_map]
      have e2:∀(l:List Operand)(m:List TypeId),l.length=m.length→(l.zip m).map ((fun x:AV×Ty=>x.1)∘xr G ev)=l.map ev:=by
       intro l
       induction l with
       |nil=>intro m _;rfl
       |
        cons x l ih=>
        intro m hm
        cases m with
        |nil=>grind
        |
         cons y m=>
         simp only[List.zip_cons_cons,fp]
         rw[ih m (by grind)];rfl
      rw[e2 _ _ (dm hlen)]
     have hlent:=pW hL
     obtain⟨hφ,hw1⟩:=yk h hB hlent nU iq
     have hv:=rT h.hw hB hφ hL (fun g hg=>hg) (by rw[hmap];omega)
     unfold Oper.wpIn
     refine⟨fun _ _=>trivial,?_⟩
     rw[Oper.semAt_eq _ _ _ (by grind)]
     have post:∀(ed:Ending)(w':World),(∃E',C6 E' w' cr.fin ed∧HW gl E' w' (fu cr.m cr.out)∧Ext gl.md (cU (bJ (List.replicate cr.m none) ins) (E.to cr.al (E.eQ lent).S)) (E.to cr.al (E.eQ lent).S) w (cU (fu cr.m cr.out) E') E' w')→
      (match ed,w' with
       | .returned v,w''=>K (a.put o.dst v) w''
       | .panicked chain,w''=>Q (.panic chain) a w''
       | .outgrown,_=>LetsOut Q):=by
      rintro ed w' ⟨E',hR,hW',hX⟩
      cases ed with
      |
       returned v=>
       cases apm:cr.oi with
       |true=>simp only[CR.fin,apm,cC] at hR;trivial
       |
        false=>
        simp only[CR.fin,apm,dv,dc] at hR
        obtain⟨E2,g1,g2,g3⟩:=oP h hB hlent nU iq hfr hW' hX hr' hR
        grind
      |
       panicked ch=>
       cases apm:cr.oi with
       |
        true=>
        simp only[CR.fin,apm,cC] at hR
        obtain⟨u,e,hR⟩:=hR
        obtain⟨E2,g1,g2,g3⟩:=oP h hB hlent nU iq hfr hW' hX hr' (RV.gZ hR)
        grind
       |false=>simp only[CR.fin,apm,dv,dc] at hR;trivial
      |outgrown=>cases apm:cr.oi<;>simp only[CR.fin,apm,cC,dv,dc] at hR<;>exact hR.elim
     obtain⟨apg,hfn⟩:=hfc
     have apa:(execOp a.eval o).run P w= .ok (.enter f (rc::c.args.toList.map a.eval).toArray) w:=by
      have hq:=hcm (c.args.map a.eval)
      rw[apg] at hq
      simp only[execOp,hop,resolve,hcf,Sem.run_bind,Sem.run_pure,Result.andThen_ok,invoke]
      have e0:(#[a.eval rv]++c.args.map a.eval)[0]? =some (a.eval rv):=by grind
      have e1:(#[a.eval rv]++c.args.map a.eval).extract 1 (#[a.eval rv]++c.args.map a.eval).size=c.args.map a.eval:=by
       apply ni;simp
       grind
      rw[e0]
      show(callMethod (a.eval rv) name ((#[a.eval rv]++c.args.map a.eval).extract 1 (#[a.eval rv]++c.args.map a.eval).size)).run P w=_
      rw[e1,hq]
      congr 2
      apply ni
      simp
     rw[apa]
     simp only[Oper.uponIn]
     refine⟨fun h=>(by cases h),?_⟩
     have h1:CallsIn Fence.wide 0 P f _ w _:=callsIn_wide.2 (hfn _ w _ hv hw1)
     exact CallsIn.mono (F:=Wd gl) h1 post
    grind
   grind
  grind
 grind
theorem LY{P:Program}{G:dq}(T:cQ P G){gl:Ctx}{σ:St}{E:Env}{a:Act}{w:World}(h:dE gl σ E a w){o:Oper}{c:Call}(hop:o.op= .call c){ev:Operand→AV}{hb:Nat→Option aX}(hB:HB hb σ.hp){cr:CR}(apm:cr.oi=false){r:jv}
 (hev:∀x∈o.op.operands.toList,RV E w (ev x) (a.eval x)) {ob:List Prop} (he:t8 P G gl cr ev hb c=some (r,ob)) (hvc:∀p∈ob,p) (hfr:∀b∈r.fr,σ.fresh b):zw P gl σ E a w o r:=fun _K _Q hK=>
 zQ T h hop hB hev he hvc hfr (fun _=>hK) (fun e=>by grind)
end Go.Ax
