/- The machines: what it means to be walked or run, part 5. No condition. -/
import Derived.Test.YtmpdeifdnbhdiaaGreatDoorA4
import Derived.LoopNIn
namespace Go.Cm
structure Kn(E:Env)(S:Id→Option aj)(w:World):Prop where
 bh:∀b k,S b=some k→∃g o,E.g b=some g∧w.heap[g]? =some o∧RB E b k o
 sep:∀b b' k k' g,S b=some k→S b'=some k'→E.g b=some g→E.g b'=some g→b=b'
theorem Kn.to{E:Env}{S:Id→Option aj}{w:World}(h:Kn E S w){hp:T aj}(hS:∀b k,get b hp=some k→S b=some k):RH E hp w:=
 ⟨fun b k hb=>h.bh b k (hS b k hb),fun b b' k k' g h1 h2=>h.sep b b' k k' g (hS b k h1) (hS b' k' h2)⟩
def Bk(S:Id→Option aj)(E:Env)(g:Nat):Prop:=∃b k,S b=some k∧E.g b=some g
structure Bl(lo hi:Nat)(S:Id→Option aj)(E:Env)(w:World)(S':Id→Option aj)(E':Env)(w':World):Prop where
 os:w'.os=w.os
 tape:Tp w w'
 output:w'.output=w.output
 size:w.heap.size≤w'.heap.size
 kept:∀g,g<w.heap.size→¬Bk S E g→w'.heap[g]? =w.heap[g]?
 own:∀g,Bk S' E' g→Bk S E g∨w.heap.size≤g
 env:∀b,(num b<lo∨hi≤num b)→E'.g b=E.g b∧E'.n b=E.n b
theorem Bl.trans{lo hi:Nat}{S S1 S2:Id→Option aj}{E E1 E2:Env}{w w1 w2:World}(h:Bl lo hi S E w S1 E1 w1)(k:Bl lo hi S1 E1 w1 S2 E2 w2):Bl lo hi S E w S2 E2 w2 where
 os:=k.os.trans h.os
 tape:=h.tape.trans k.tape
 output:=k.output.trans h.output
 size:=Nat.le_trans h.size k.size
 kept:=fun g hg ho=>by
  rw[k.kept g (Nat.lt_of_lt_of_le hg h.size) (fun h1=>(h.own g h1).elim ho (fun h2=>by omega)),h.kept g hg ho]
 own:=fun g hg=>by
  rcases k.own g hg with h1|h1
  ·exact h.own g h1
  ·exact Or.inr (Nat.le_trans h.size h1)
 env:=fun b hb=>⟨(k.env b hb).1.trans (h.env b hb).1,(k.env b hb).2.trans (h.env b hb).2⟩
theorem Bl.wide{lo hi lo' hi':Nat}{S S':Id→Option aj}{E E':Env}{w w':World}(h:Bl lo hi S E w S' E' w')(h1:lo'≤lo)(h2:hi≤hi'):Bl lo' hi' S E w S' E' w':=
 {h with env:=fun b hb=>h.env b (by omega)}
def Kf(gl:List V)(S:Id→Option aj)(E:Env)(w:World):Prop:=
 ∀g x,eK gl g=some x→¬Bk S E g∧∃l cs e fz,x= .agg l∧w.heap[g]? =some (.cells cs e fz)∧(∃xs ys,cs.toList=xs++ys∧∀E,aH E l xs)∧l.bK=true
theorem Kf.step{gl:List V}{lo hi:Nat}{S S':Id→Option aj}{E E':Env}{w w':World}(h:Kf gl S E w)(x:Bl lo hi S E w S' E' w'):Kf gl S' E' w':=by
 intro g y hy
 obtain⟨h1,l,cs,e,fz,h2,h3,h4⟩:=h g y hy
 have Sg:g<w.heap.size:=(Array.getElem?_eq_some_iff.1 h3).1
 refine⟨fun ho=>?_,l,cs,e,fz,h2,?_,h4⟩
 ·rcases x.own g ho with h|h
  ·exact h1 h
  ·omega
 ·rw[x.kept g Sg h1];exact h3
theorem Kf.to{gl:List V}{S:Id→Option aj}{E:Env}{w:World}(h:Kf gl S E w){hp:T aj}(hS:∀b k,get b hp=some k→S b=some k):GL gl hp E w:=by
 intro g x hx
 obtain⟨h1,h2⟩:=h g x hx
 exact⟨fun⟨b,k,hb,hg⟩=>h1 ⟨b,k,hS b k hb,hg⟩,h2⟩
open Classical in
noncomputable def DY(h0 h1:T aj)(S:Id→Option aj)(b:Id):Option aj:=if get b h0=get b h1 then S b else get b h1
theorem iR{h0 h1:T aj}{S:Id→Option aj}(Sl:∀b k,get b h0=some k→S b=some k){b:Id}{k:aj}(h:DY h0 h1 S b=some k):get b h1=some k∨(get b h0=none∧S b=some k):=by
 unfold DY at h
 split at h
 ·rename_i e
  cases h0b:get b h0 with
  |none=>exact Or.inr ⟨rfl,h⟩
  |
   some k'=>
   have:=Sl b k' h0b
   rw[h] at this;cases this
   rw[h0b] at e
   exact Or.inl e.symm
 ·exact Or.inl h
theorem xG{h0 h1:T aj}{S:Id→Option aj}{E E':Env}{w w':World}{nx RY:Id}(Sl:∀b k,get b h0=some k→S b=some k)(H:Kn E S w)(F:bI (num RY) nx E)(H1:RH E' h1 w')(X:Ex h0 nx E w h1 RY E' w'):
 Kn E' (DY h0 h1 S) w'∧Bl (num nx) (num RY) S E w (DY h0 h1 S) E' w':=by
 have hle:E.le E':=X.le F (Nat.le_refl _)
 have ownS:∀g,Own h0 E g→Bk S E g:=fun g ⟨b,k,hb,hg⟩=>⟨b,k,Sl b k hb,hg⟩
 have away:∀b k,get b h0=none→S b=some k→∃g o,E.g b=some g∧E'.g b=some g∧E'.n b=E.n b∧w'.heap[g]? =some o∧RB E b k o∧¬Own h0 E g∧g<w.heap.size:=by
  intro b k hb0 hb
  obtain⟨g,o,q1,q2,q3⟩:=H.bh b k hb
  have Sg:g<w.heap.size:=(Array.getElem?_eq_some_iff.1 q2).1
  have hno:¬Own h0 E g:=by
   rintro⟨b',k',Sb,hg'⟩
   have:=H.sep b' b k' k g (Sl b' k' Sb) hb hg' q1
   subst this
   rw[Sb] at hb0;cases hb0
  exact⟨g,o,q1,(hle b g q1).1,(hle b g q1).2,by rw[X.kept g Sg hno];exact q2,q3,hno,Sg⟩
 refine⟨⟨?_,?_⟩,⟨X.os,X.tape,X.output,X.size,fun g hg ho=>X.kept g hg (fun h=>ho (ownS g h)),?_,X.env⟩⟩
 ·intro b k hb
  rcases iR Sl hb with h|⟨h,h'⟩
  ·exact H1.bh b k h
  ·obtain⟨g,o,q1,q2,q3,q4,q5,_⟩:=away b k h h'
   exact⟨g,o,q2,q4,q5.mono hle q3⟩
 ·intro b b' k k' g hb Sb hg hg'
  rcases iR Sl hb with h|⟨h,h'⟩
  ·rcases iR Sl Sb with j|⟨j,j'⟩
   ·exact H1.sep b b' k k' g h j hg hg'
   ·obtain⟨g2,o,q1,q2,q3,q4,q5,q6,q7⟩:=away b' k' j j'
    rw[hg'] at q2;cases q2
    rcases X.own g ⟨b,k,h,hg⟩ with h|h
    ·exact absurd h q6
    ·omega
  ·obtain⟨g2,o,q1,q2,q3,q4,q5,q6,q7⟩:=away b k h h'
   rw[hg] at q2;cases q2
   rcases iR Sl Sb with j|⟨j,j'⟩
   ·rcases X.own g ⟨b',k',j,hg'⟩ with h|h
    ·exact absurd h q6
    ·omega
   ·obtain⟨g3,o',p1,p2,p3,p4,p5,p6,p7⟩:=away b' k' j j'
    rw[hg'] at p2;cases p2
    exact H.sep b b' k k' g h' j' q1 p1
 ·rintro g ⟨b,k,hb,hg⟩
  rcases iR Sl hb with h|⟨h,h'⟩
  ·rcases X.own g ⟨b,k,h,hg⟩ with h|h
   ·exact Or.inl (ownS g h)
   ·exact Or.inr h
  ·obtain⟨g2,o,q1,q2,q3,q4,q5,q6,q7⟩:=away b k h h'
   rw[hg] at q2;cases q2
   exact Or.inl ⟨b,k,h',q1⟩
section
variable{α β:Type}
open Classical in
noncomputable def sx(X:Nat→Bool)(C:Nat→Prop)(g:Nat→α):Nat→α
 |0=>g 0
 |n+1=>if X n=true∧C n then g (n+1) else sx X C g n
theorem yR{X:Nat→Bool}{C:Nat→Prop}{g:Nat→α}:∀N,(sx X C g N=g 0∧∀i,i<N→X i=true→¬C i)∨∃i,i<N∧X i=true∧C i∧sx X C g N=g (i+1)∧∀j,i<j→j<N→X j=true→¬C j
 |0=>Or.inl ⟨rfl,fun i hi=>by omega⟩
 |
  N+1=>by
  unfold sx
  by_cases h:X N=true∧C N
  ·rw[if_pos h]
   exact Or.inr ⟨N,by omega,h.1,h.2,rfl,fun j h1 h2=>by omega⟩
  ·rw[if_neg h]
   rcases yR (X:=X) (C:=C) (g:=g) N with⟨h1,h2⟩|⟨i,h1,h2,h3,h4,h5⟩
   ·refine Or.inl ⟨h1,fun i hi hx hc=>?_⟩
    by_cases e:i=N
    ·subst e;exact h ⟨hx,hc⟩
    ·exact h2 i (by omega) hx hc
   ·refine Or.inr ⟨i,by omega,h2,h3,h4,fun j hj hj' hx hc=>?_⟩
    by_cases e:j=N
    ·subst e;exact h ⟨hx,hc⟩
    ·exact h5 j hj (by omega) hx hc
theorem run_eq{g:Nat→β}{a:Nat}:∀{b:Nat},a≤b→(∀i,a≤i→i<b→g i=g (i+1))→g a=g b
 |0,h,_=>by
  have:a=0:=by omega
  subst this;rfl
 |
  b+1,h,k=>by
  by_cases e:a=b+1
  ·subst e;rfl
  ·rw[run_eq (b:=b) (by omega) (fun i h1 h2=>k i h1 (by omega))]
   exact k b (by omega) (by omega)
theorem pn{X:Nat→Bool}{C:Nat→Prop}{g:Nat→α}{N k:Nat}(π:α→β)(hk:X k=false)(hN:k<N)(hC:∀i,i<N→¬C i→g i=g (i+1))
 (h1:∀i,i<k→X i=false→π (g i)=π (g (i+1))) (h2:∀i,k<i→i<N→X i=true→π (g i)=π (g (i+1)))
 (h3:∀i j,j<i→i<N→X i=true→X j=false→¬(C i∧C j)):π (sx X C g N)=π (g k):=by
 rcases yR (X:=X) (C:=C) (g:=g) N with⟨e,l⟩|⟨i,i1,i2,i3,e,l⟩
 ·rw[e]
  refine run_eq (g:=fun i=>π (g i)) (Nat.zero_le _) (fun i _ hi=>?_)
  cases hx:X i with
  |true=>show π (g i)=π (g (i+1));rw[hC i (by omega) (l i (by omega) hx)]
  |false=>exact h1 i hi hx
 ·rw[e]
  by_cases hik:i<k
  ·refine run_eq (g:=fun i=>π (g i)) (a:=i+1) (b:=k) (by omega) (fun j hj hj'=>?_)
   cases hx:X j with
   |true=>show π (g j)=π (g (j+1));rw[hC j (by omega) (l j (by omega) (by omega) hx)]
   |false=>exact h1 j hj' hx
  ·have hki:k<i:=by
    rcases Nat.lt_trichotomy i k with h|h|h
    ·exact absurd h hik
    ·subst h;rw[hk] at i2;cases i2
    ·exact h
   refine(run_eq (g:=fun i=>π (g i)) (a:=k) (b:=i+1) (by omega) (fun j hj hj'=>?_)).symm
   cases hx:X j with
   |
    true=>
    have:j≠k:=fun e=>by subst e;rw[hk] at hx;cases hx
    exact h2 j (by omega) (by omega) hx
   |
    false=>
    have hji:j<i:=by
     by_cases e:j=i
     ·subst e;rw[i2] at hx;cases hx
     ·omega
    have:¬C j:=fun hc=>h3 i j hji i1 i2 hx ⟨i3,hc⟩
    show π (g j)=π (g (j+1))
    rw[hC j (by omega) this]
open Classical in
theorem pO{X:Nat→Bool}{C:Nat→Prop}{g:Nat→α}{k:Nat}(hk:X k=false):∀{N},k<N→(∀i,k<i→i<N→X i=true→¬(C i∧C k))→
 sx (fun i=>X i||i==k) C g N=if C k then g (k+1) else sx X C g N
 |
  N+1,hN,h3=>by
  by_cases e:N=k
  ·subst e
   have low:∀n,n≤N→sx (fun i=>X i||i==N) C g n=sx X C g n:=by
    intro n
    induction n with
    |zero=>intro _;rfl
    |
     succ n ih=>
     intro hn
     unfold sx
     rw[ih (by omega)]
     have:(n==N)=false:=by simp;omega
     simp only[this,Bool.or_false]
   have r:sx X C g (N+1)=sx X C g N:=by
    rw[show sx X C g (N+1)=if X N=true∧C N then g (N+1) else sx X C g N from rfl,if_neg (fun h=>by rw[hk] at h;cases h.1)]
   have l:sx (fun i=>X i||i==N) C g (N+1)=if(X N||N==N)=true∧C N then g (N+1) else sx (fun i=>X i||i==N) C g N:=rfl
   rw[r,l,low N (Nat.le_refl _)]
   by_cases hc:C N
   ·rw[if_pos ⟨by simp,hc⟩,if_pos hc]
   ·rw[if_neg (fun h=>hc h.2),if_neg hc]
  ·have ih:=pO (C:=C) (g:=g) hk (N:=N) (by omega) (fun i h1 h2 hx=>h3 i h1 (by omega) hx)
   unfold sx
   rw[ih]
   have hb:(N==k)=false:=by simp;omega
   simp only[hb,Bool.or_false]
   by_cases hx:X N=true∧C N
   ·have hck:¬C k:=fun hc=>h3 N (by omega) (by omega) hx.1 ⟨hx.2,hc⟩
    rw[if_pos hx,if_neg hck,if_pos hx]
   ·simp only[if_neg hx]
theorem xH{X:Nat→Bool}{C:Nat→Prop}{g:Nat→α}:∀{N},(∀i,i<N→X i=true)→(∀i,i<N→¬C i→g i=g (i+1))→sx X C g N=g N
 |0,_,_=>rfl
 |
  N+1,hX,hC=>by
  unfold sx
  by_cases h:X N=true∧C N
  ·rw[if_pos h]
  ·rw[if_neg h,xH (fun i hi=>hX i (by omega)) (fun i hi=>hC i (by omega))]
   exact hC N (by omega) (fun hc=>h ⟨hX N (by omega),hc⟩)
theorem tO{X:Nat→Bool}{C:Nat→Prop}{g:Nat→α}:∀{N},(∀i,i<N→X i=false)→sx X C g N=g 0
 |0,_=>rfl
 |
  N+1,hX=>by
  unfold sx
  rw[if_neg (fun h=>by rw[hX N (by omega)] at h;cases h.1),tO (fun i hi=>hX i (by omega))]
end
end Go.Cm
namespace Go.Cm
theorem aI{a b:Bool}(h:bn a b=true):a=true∧b=true:=by
 cases a with
 |true=>exact⟨rfl,h⟩
 |false=>cases h
theorem An{a b:Bool}(h:Jx a b=true):a=b:=by cases a<;>cases b<;>first|rfl|cases h
theorem iS:∀(x y:V),fa x y=some true→x=y:=by
 intro x
 induction x with
 |
  b b=>
  intro y h
  obtain⟨c,rfl,h1⟩:=cT (show(y.bool fun c=>some (Jx b c))=some true from h)
  rw[An (Option.some.inj h1)]
 |
  i k n=>
  intro y h
  obtain⟨k',m,rfl,h1⟩:=aT (show(y.int fun k' m=>some (bn (xE k k') (uU n m)))=some true from h)
  obtain⟨a,b⟩:=aI (Option.some.inj h1)
  rw[jU] at b
  rw[gY a,eq_of_beq b]
 |
  s l=>
  intro y h
  obtain⟨m,rfl,h1⟩:=dg (show(y.str fun m=>some (DV l m))=some true from h)
  have:DV l m=true:=Option.some.inj h1
  rw[om] at this
  rw[of_decide_eq_true this]
 |
  p b o=>
  intro y h
  obtain⟨c,p,rfl,h1⟩:=eA (show(y.ptr fun c p=>some (bn (jS b c) (Nat.beq o p)))=some true from h)
  obtain⟨a,b⟩:=aI (Option.some.inj h1)
  rw[iG a,bg b]
 |
  sl b o l c=>
  intro y h
  rcases cu (show(y.uT (fun b' o' l' c'=>some (bn (jS b b') (bn (Nat.beq o o') (bn (Nat.beq l l') (Nat.beq c c'))))) (fun _ _ _ _=>none) none)=some true from h) with⟨b',o',l',c',rfl,h1⟩|⟨_,_,_,_,_,h1⟩|⟨_,h1⟩
  ·obtain⟨a1,h2⟩:=aI (Option.some.inj h1)
   obtain⟨a2,h3⟩:=aI h2
   obtain⟨a3,a4⟩:=aI h3
   rw[iG a1,bg a2,bg a3,bg a4]
  ·cases h1
  ·cases h1
 |
  su b o l c=>
  intro y h
  rcases cu (show(y.uT (fun _ _ _ _=>none) (fun b' o' l' c'=>some (bn (jS b b') (bn (Nat.beq o o') (bn (Nat.beq l l') (Nat.beq c c'))))) none)=some true from h) with⟨_,_,_,_,_,h1⟩|⟨b',o',l',c',rfl,h1⟩|⟨_,h1⟩
  ·cases h1
  ·obtain⟨a1,h2⟩:=aI (Option.some.inj h1)
   obtain⟨a2,h3⟩:=aI h2
   obtain⟨a3,a4⟩:=aI h3
   rw[iG a1,bg a2,bg a3,bg a4]
  ·cases h1
 |
  m b=>
  intro y h
  rcases jT (show(y.mp (fun c=>some (jS b c)) none)=some true from h) with⟨c,rfl,h1⟩|⟨_,h1⟩
  ·rw[iG (Option.some.inj h1)]
  ·cases h1
 |
  fn f a c ia ib=>
  intro y h
  rcases kz (show(y.EB (fun g c' d=>bO (fa a c') fun p=>bO (fa c d) fun q=>some (bn (Nat.beq f g) (bn p q))) fun _=>none)=some true from h) with⟨g,c',d,rfl,h1⟩|⟨_,_,h1⟩
  ·obtain⟨p,p1,h2⟩:=aa h1
   obtain⟨q,q1,h3⟩:=aa h2
   obtain⟨a1,a2⟩:=aI (Option.some.inj h3)
   obtain⟨a3,a4⟩:=aI a2
   subst a3;subst a4
   rw[bg a1,ia _ p1,ib _ q1]
  ·cases h1
 |
  FG t v ih=>
  intro y h
  rcases mI (show(y.EC (fun t' v'=>bO (fa v v') fun p=>some (bn (Nat.beq t t') p)) none)=some true from h) with⟨t',v',rfl,h1⟩|⟨_,h1⟩
  ·obtain⟨p,p1,h2⟩:=aa h1
   obtain⟨a1,a2⟩:=aI (Option.some.inj h2)
   subst a2
   rw[bg a1,ih _ p1]
  ·cases h1
 |
  agg l ih=>
  intro y h
  obtain⟨m,rfl,h1⟩:=cC (show(y.ag (fa l))=some true from h)
  rw[ih _ h1]
 |
  nil=>
  intro y h
  rcases bF (show(y.split (some true) (fun _ _=>none) none)=some true from h) with⟨rfl,_⟩|⟨_,_,_,h1⟩
  ·rfl
  ·cases h1
 |
  cons a l ia il=>
  intro y h
  obtain⟨b,m,rfl,h1⟩:=bq (show(y.split none (fun b m=>bO (fa a b) fun p=>@Bool.rec (fun _=>Option Bool) (some false) (fa l m) p) none)=some true from h)
  obtain⟨p,p1,h2⟩:=aa h1
  cases p with
  |false=>cases(show(some false:Option Bool)=some true from h2)
  |true=>rw[ia _ p1,il _ h2]
 |yl b=>intro y h;cases h
 |
  bU l ih=>
  intro y h
  obtain⟨m,rfl,h1⟩:=zW (show(y.tu (fa l))=some true from h)
  rw[ih _ h1]
 |un=>intro y h;cases h
 |_=>intro y h;cases y<;>first|rfl|(cases(show(some false:Option Bool)=some true from h))
theorem iT{o:Option Bool}(h:isTrue o=true):o=some true:=by
 cases o with
 |none=>cases h
 |some b=>cases(show b=true from h);rfl
theorem Bm{a b:Option aj}(h:CF a b=true):a=b:=by
 cases a with
 |
  none=>cases b with
  |none=>rfl
  |some b=>cases h
 |
  some a=>cases b with
  |none=>cases h
  |
   some b=>
   cases a with
   |
    c l e=>
    cases b with
    |c m e'=>obtain⟨h1,h2⟩:=aI (show bn (Nat.beq e e') (isTrue (fa l m))=true from h);rw[bg h1,iS _ _ (iT h2)]
    |_=>cases h
   |
    u l e=>
    cases b with
    |u m e'=>obtain⟨h1,h2⟩:=aI (show bn (Nat.beq e e') (isTrue (fa l m))=true from h);rw[bg h1,iS _ _ (iT h2)]
    |_=>cases h
   |_=>cases h
noncomputable def cl(o n:Nat)(k:Option aj):Option V:=bO k fun k=>k.cells fun l=>bY o n l
theorem Bn{o n:Nat}{a b:Option aj}(h:CG o n a b=true):cl o n a=cl o n b:=by
 obtain⟨a',rfl,h1⟩:=aa (iT h)
 obtain⟨b',rfl,h2⟩:=aa h1
 obtain⟨l,e,hl,h3⟩:=bG h2
 obtain⟨m,e',hm,h4⟩:=bG h3
 obtain⟨x,hx,h5⟩:=aa h4
 obtain⟨y,hy,h6⟩:=aa h5
 have:=iS _ _ h6
 subst this
 have q1:cl o n (some a')=some x:=by rcases hl with rfl|rfl<;>exact hx
 have q2:cl o n (some b')=some x:=by rcases hm with rfl|rfl<;>exact hy
 rw[q1,q2]
theorem gT{b:Id}:∀{l:List Id},qP b l=true↔b∈l
 |[]=>⟨fun h=>(by cases h),fun h=>(by cases h)⟩
 |
  a::l=>by
  show@Bool.rec (fun _=>Bool) (qP b l) true (jS a b)=true↔_
  cases h:jS a b with
  |true=>have:=iG h;subst this;simp
  |
   false=>
   have R7:b≠a:=fun e=>by subst e;rw[oj] at h;cases h
   show qP b l=true↔_
   rw[gT,List.mem_cons]
   exact⟨Or.inr,fun h=>h.resolve_left R7⟩
theorem iU{p:Id→Bool}:∀{l:List Id},allI p l=true→∀b∈l,p b=true
 |
  a::l,h,b,hb=>by
  obtain⟨h1,h2⟩:=aI (show bn (p a) (allI p l)=true from h)
  rcases List.mem_cons.1 hb with rfl|hb
  ·exact h1
  ·exact iU h2 b hb
theorem tP{l m:List Id}(h:gU l m=true):∀b∈m,b∉l:=by
 intro b hb hm
 have:=iU h b hb
 rw[gT.2 hm] at this
 cases this
theorem pP{hp:T aj}{b:Id}(h:Bg hp b=true):get b hp=none:=by
 unfold Bg at h
 cases hg:get b hp with
 |none=>rfl
 |some k=>rw[hg] at h;cases h
theorem vD{t:Nat}:∀{l:List Nat},uz t l=true↔t∈l
 |[]=>⟨fun h=>(by cases h),fun h=>(by cases h)⟩
 |
  a::l=>by
  show@Bool.rec (fun _=>Bool) (uz t l) true (Nat.beq a t)=true↔_
  cases h:Nat.beq a t with
  |true=>have:=bg h;subst this;simp
  |
   false=>
   have R7:t≠a:=fun e=>by subst e;rw[Nat.beq_refl] at h;cases h
   show uz t l=true↔_
   rw[vD,List.mem_cons]
   exact⟨Or.inr,fun h=>h.resolve_left R7⟩
noncomputable def dA(S:Id→Option aj)(l:List Id):T aj:=l.foldr (fun b t=>put (S b) b t) .e
theorem iV{S:Id→Option aj}{b:Id}:∀{l:List Id},get b (dA S l)=if b∈l then S b else none
 |[]=>by simp[dA,gM]
 |
  a::l=>by
  show get b (put (S a) a (dA S l))=_
  rw[bJ,iV]
  by_cases e:b=a
  ·subst e;simp
  ·simp[e]
theorem Bo{l:List Id}{hp:T aj}{b:Id}:DU l hp b=if b∈l then get b hp else none:=by
 unfold DU
 cases h:qP b l with
 |true=>rw[if_pos (gT.1 h)]
 |false=>rw[if_neg (fun hm=>by rw[gT.2 hm] at h;cases h)]
theorem Ao{P:Program}{gl:List V}{o:Op}{f:EH}(hf:l8 P gl o= .mk f){tm:T V}{hb Sb:Id→Option aj}{nx:Id}{e:bw}{c:Id}{oo n:Nat}(hl:rT P tm o=some (c,oo,n))(h:f tm hb nx=some e)(hc:cl oo n (Sb c)=cl oo n (hb c)):f tm Sb nx=some e:=by
 cases o<;>simp only[rT] at hl<;>first|(cases hl;done)|skip
 rename_i t a
 obtain⟨v,hv,h1⟩:=aa hl
 obtain⟨b,p,rfl,h2⟩:=eA h1
 obtain⟨m,hm,h3⟩:=aa h2
 cases h3
 obtain⟨d,hd,h4⟩:=aa hm
 obtain⟨i,hi,h5⟩:=aa h4
 have key:(bO (eZ tm a) fun a=>vE (dJ P hb t a))=some e→(bO (eZ tm a) fun a=>vE (dJ P Sb t a))=some e:=by
  intro h
  rw[hv] at h ⊢
  obtain⟨r,hr,h6⟩:=aa (show vE (dJ P hb t (.p c oo))=some e from h)
  cases h6
  have hr':(bO (hb c) fun k=>k.cells fun l=>bO (P.underlying t) fun d=>
   @Bool.rec (fun _=>Option V) (pd oo l) (bO (P.info? t) fun i=>bO (bY oo i.size l) fun r=>some (.agg r)) (iO d))=some r:=hr
  obtain⟨k,hk,h7⟩:=aa hr'
  obtain⟨l,el,hl',h8⟩:=bG h7
  rw[hd] at h8
  have h9:@Bool.rec (fun _=>Option V) (pd oo l) (bO (P.info? t) fun i=>bO (bY oo i.size l) fun r=>some (.agg r)) (iO d)=some r:=h8
  have fin:∀(l':V)(k':aj)(e':TypeId),Sb c=some k'→(k'= .c l' e'∨k'= .u l' e')→@Bool.rec (fun _=>Option V) (pd oo l') (bO (P.info? t) fun i=>bO (bY oo i.size l') fun r=>some (.agg r)) (iO d)=some r→vE (dJ P Sb t (.p c oo))=some (.v r):=by
   intro l' k' e' h1 h2 h3
   have:dJ P Sb t (.p c oo)=some r:=by
    show(bO (Sb c) fun k=>k.cells fun l=>bO (P.underlying t) fun d=>
     @Bool.rec (fun _=>Option V) (pd oo l) (bO (P.info? t) fun i=>bO (bY oo i.size l) fun r=>some (.agg r)) (iO d))=some r
    rw[h1]
    rcases h2 with rfl|rfl
    ·show(bO (P.underlying t) fun d=>@Bool.rec (fun _=>Option V) (pd oo l') (bO (P.info? t) fun i=>bO (bY oo i.size l') fun r=>some (.agg r)) (iO d))=some r
     rw[hd];exact h3
    ·show(bO (P.underlying t) fun d=>@Bool.rec (fun _=>Option V) (pd oo l') (bO (P.info? t) fun i=>bO (bY oo i.size l') fun r=>some (.agg r)) (iO d))=some r
     rw[hd];exact h3
   rw[this];rfl
  have hcl:cl oo n (hb c)=bY oo n l:=by
   rw[hk];rcases hl' with rfl|rfl<;>rfl
  have other:∀x,bY oo n l=some x→∃l' k' e',Sb c=some k'∧(k'= .c l' e'∨k'= .u l' e')∧bY oo n l'=some x:=by
   intro x hx
   rw[hcl,hx] at hc
   obtain⟨k',q1,q2⟩:=aa hc
   obtain⟨l',e',q3,q4⟩:=bG q2
   exact⟨l',k',e',q1,q3,q4⟩
  cases hag:iO d with
  |
   true=>
   rw[hag] at h9 h5
   cases h5
   rw[hi] at h9
   obtain⟨x,x1,x2⟩:=aa (show(bO (bY oo i.size l) fun r=>some (V.agg r))=some r from h9)
   obtain⟨l',k',e',q1,q2,q3⟩:=other x x1
   refine fin l' k' e' q1 q2 ?_
   rw[hag,hi]
   show(bO (bY oo i.size l') fun r=>some (V.agg r))=some r
   rw[q3];exact x2
  |
   false=>
   rw[hag] at h9 h5
   cases h5
   obtain⟨y,y1,y2⟩:=aa (show bO (rl oo l) (fun y=>y.split none (fun a _=>some a) none)=some r from h9)
   obtain⟨a0,m0,rfl,y3⟩:=bq y2
   cases y3
   have hx:bY oo 1 l=some (.cons r .nil):=by
    show bO (rl oo l) (fun m=>w8 1 m)=_
    rw[y1];rfl
   obtain⟨l',k',e',q1,q2,q3⟩:=other _ hx
   refine fin l' k' e' q1 q2 ?_
   rw[hag]
   obtain⟨m',p1,p2⟩:=aa q3
   obtain⟨a1,m1,rfl,p3⟩:=bq (show m'.split none (fun a l=>bO (w8 0 l) (fun r=>some (V.cons a r))) none=some _ from p2)
   show bO (rl oo l') (fun y=>y.split none (fun a _=>some a) none)=some r
   rw[p1]
   cases(show some (V.cons a1 .nil)=some (V.cons r .nil) from p3)
   rfl
 cases a with
 |global g=>cases hv
 |_=>cases hf;exact key h
def lk(P:Program)(gl:List V)(o:Oper)(tm:T V)(hp:T aj)(nx:Id)(v:V)(R0:T aj)(RY:Id):Prop:=
 num nx≤num RY∧∀(r:Option Nat)(L:Nat)(E:Env)(a:Act)(w:World),num RY≤L→RT E tm a.tmps→RH E hp w→bI L nx E→GL gl hp E w→∀(K:Act→World→Prop)(Q:Exit→Act→World→Prop),
  (∀E' u w',RV E' v u→RH E' R0 w'→bI L RY E'→Ex hp nx E w R0 RY E' w'→K (a.put o.dst u) w')→o.wpIn (Fr r) 0 P a w K Q
section
variable{P:Program} {gl:List V} {ih:dc} {hf:Hk}
theorem Bp{o:Oper}{tm:T V}{hp:T aj}{nx:Id}{e:bw}(hnd:∀c,o.op≠.defer c)
 (h:∀L E(a:Act) w,num (e.nx nx)≤L→RT E tm a.tmps→RH E hp w→bI L nx E→GL gl hp E w→rV P L hp nx E w e (execOp a.eval o)):lk P gl o tm hp nx e.val (e.hp nx hp) (e.nx nx):=by
 refine⟨uI e nx,?_⟩
 intro r L E a w hL hT hH hF hG K Q hK
 obtain⟨n,v,w',E',h1,h2,h3,h4,h5,h6⟩:=h L E a w hL hT hH hF hG hL
 unfold Oper.wpIn
 refine⟨fun _ _=>trivial,?_⟩
 rw[Oper.semAt_eq _ _ _ hnd,h1]
 have fin:=hK E' v w' h3 h4 h5 h6
 rcases h2 with h2|⟨h2,h2'⟩
 ·subst h2;exact fin
 ·subst h2;subst h2';exact fin
theorem xI{o:Oper}{tm:T V}{hp:T aj}{nx:Id}{v:V}{R0:T aj}{RY:Id}(hnd:∀c,o.op≠.defer c)(hn:num nx≤num RY)
 (h:∀L E(a:Act) w,num RY≤L→RT E tm a.tmps→RH E hp w→bI L nx E→GL gl hp E w→
  (∃f args,(execOp a.eval o).run P w= .ok (.enter f args) w∧CallsIn Fence.wide 0 P f args w (fun e w'=>∃u E',e= .returned u∧RV E' v u∧RH E' R0 w'∧bI L RY E'∧Ex hp nx E w R0 RY E' w'))∨
  (∃l fn tmps Sz body,(execOp a.eval o).run P w= .ok (.round l fn tmps Sz body) w∧RoundIn Fence.wide 0 P l fn tmps Sz body w (fun e w'=>∃u E',e= .returned u∧RV E' v u∧RH E' R0 w'∧bI L RY E'∧Ex hp nx E w R0 RY E' w'))):
 lk P gl o tm hp nx v R0 RY:=by
 refine⟨hn,?_⟩
 intro r L E a w hL hT hH hF hG K Q hK
 unfold Oper.wpIn
 refine⟨fun _ _=>trivial,?_⟩
 rw[Oper.semAt_eq _ _ _ hnd]
 have post:∀(ed:Ending)(w':World),(∃u E',ed= .returned u∧RV E' v u∧RH E' R0 w'∧bI L RY E'∧Ex hp nx E w R0 RY E' w')→
  (match ed,w' with
   | .returned v,w''=>K (a.put o.dst v) w''
   | .panicked chain,w''=>Q (.panic chain) a w''
   | .outgrown,_=>LetsOut Q):=by
  rintro ed w' ⟨u,E',rfl,q1,q2,q3,q4⟩
  exact hK E' u w' q1 q2 q3 q4
 rcases h L E a w hL hT hH hF hG with⟨f,args,h1,h2⟩|⟨l,fn,tmps,Sz,body,h1,h2⟩
 ·rw[h1]
  simp only[Oper.uponIn]
  exact⟨fun h=>(by cases h),CallsIn.mono (F:=Fr r) h2 post⟩
 ·rw[h1]
  simp only[Oper.uponIn]
  exact⟨fun h=>(by cases h),RoundIn.mono (F:=Fr r) h2 post⟩
theorem Qx{o:Oper}{tm:T V}{hp:T aj}{nx:Id}{f:EH}{e:bw}(hc:c6 P gl o.op= .op f)(h:f tm (fun b=>get b hp) nx=some e):lk P gl o tm hp nx e.val (e.hp nx hp) (e.nx nx):=by
 obtain⟨c1,c2,c3⟩:=qS hc
 exact Bp c2 (fun L E a w _ hT hH hF hG=>zK hT hH hF (fun _ _ hb=>hb) hG c1 h)
theorem Oh{o:Oper}{tm:T V}{hp:T aj}{nx:Id}{b:Builtin}{args:List Operand}{ts:List TypeId}{x:V}{e:bw}(hc:c6 P gl o.op= .blt b args ts)(h1:je tm args=some x)(h3:fP P (fun b=>get b hp) nx b ts x=some e):
 lk P gl o tm hp nx e.val (e.hp nx hp) (e.nx nx):=by
 obtain⟨c,c1,c2,c3,c4⟩:=tc hc
 subst c3;subst c4
 refine Bp (by rw[c1];intro c hc;cases hc) ?_
 intro L E a w hL hT hH hF hG
 have hx:=eD hT h1
 have:=mK (P:=P) (ty:=o.type) (cs:=c.args.map fun| .const _=>true|_=>false) (vs:=c.args.map a.eval) hH hF (fun _ _ hb=>hb) (by simpa using hx) h3
 intro hL'
 obtain⟨n,v,w',E',g1,g2⟩:=this hL'
 refine⟨n,v,w',E',?_,g2⟩
 simp only[execOp,c1,resolve,c2,Sem.run_bind,Sem.run_pure,Result.andThen_ok,invoke]
 exact g1
theorem Oi(hI:rW P gl ih)(hG:vB P gl hf){o:Oper}{tm:T V}{hp:T aj}{nx:Id}{f:Operand}{args:List Operand}{fv x:V}{k:V→T aj→Id→Option Rs}{R:Rs}(hc:c6 P gl o.op= .val f args)(h1:eZ tm f=some fv)(h3:je tm args=some x)(h4:wD P hf ih fv x hp nx k=some R):
 ∃v R0 RY,k v R0 RY=some R∧lk P gl o tm hp nx v R0 RY:=by
 obtain⟨c,c1,c2,c3⟩:=th hc
 subst c3
 have hnd:∀c,o.op≠.defer c:=by rw[c1];intro c hc;cases hc
 rcases kz h4 with⟨g,fs,cs,rfl,h5⟩|⟨b,rfl,h5⟩
 ·rw[kF] at h5
  obtain⟨v,R0,RY,h6,q1,q2,q3⟩:=jj hI hG.JF hG.hash hG.Kj hG.ext h5
  refine⟨_,_,_,h6,xI hnd q2 ?_⟩
  intro L E a w hL hT hH hF hGl
  left
  have hfv:=aK hT h1
  simp only[RV] at hfv
  obtain⟨f',c',Sj,r1,r2⟩:=hfv
  have hv:=r1.app ((eD hT h3).app r2)
  have hcall:=q3 L E w _ hL hv hH hF hGl
  refine⟨g,_,?_,hcall⟩
  simp only[execOp,c1,resolve,c2,Sj,Sem.run_bind,Deferred.ofValue,Sem.run_pure,Result.andThen_ok,invoke]
  rw[q1]
  congr 2
  apply Array.ext'
  simp
 ·obtain⟨v,R0,RY,h6,q2,q3⟩:=tg hI h5
  refine⟨_,_,_,h6,xI hnd q2 ?_⟩
  intro L E a w hL hT hH hF hGl
  right
  have hfv:=aK hT h1
  simp only[RV] at hfv
  obtain⟨l,hg,Sj⟩:=hfv
  obtain⟨fn,tmps,Sz,body,y1,y2⟩:=q3 L E w _ l hL (eD hT h3) hH hF hGl hg
  refine⟨l,fn,tmps,Sz,body,?_,y2⟩
  simp only[execOp,c1,resolve,c2,Sj,Sem.run_bind,Deferred.ofValue,Sem.run_pure,Result.andThen_ok,invoke,Array.empty_append]
  have:(c.args.toList.map a.eval).toArray=c.args.map a.eval:=by apply Array.ext';simp
  rw[←this];exact y1
theorem Oj(hI:rW P gl ih)(hG:vB P gl hf){o:Oper}{tm:T V}{hp:T aj}{nx:Id}{f:Operand}{name:String}{args:List Operand}{rv x:V}{k:V→T aj→Id→Option Rs}{R:Rs}(hc:c6 P gl o.op= .inv f name args)(h1:eZ tm f=some rv)(h3:je tm args=some x)
 (h4:(rv.EC (fun t v=>bO (nY P (fun b=>get b hp) t v name) fun fx=>jf P hf ih (jg P ih) fx.1 (.cons fx.2 x) hp nx k) none)=some R):
 ∃v R0 RY,k v R0 RY=some R∧lk P gl o tm hp nx v R0 RY:=by
 obtain⟨c,c1,c2,c3⟩:=tj hc
 subst c3
 have hnd:∀c,o.op≠.defer c:=by rw[c1];intro c hc;cases hc
 rcases mI h4 with⟨t,v,rfl,h5⟩|⟨_,h5⟩
 ·obtain⟨fx,hfx,h6⟩:=aa h5
  obtain⟨g,y⟩:=fx
  obtain⟨v',R0,RY,h7,q1,q2,q3⟩:=jj hI hG.JF hG.hash hG.Kj hG.ext h6
  refine⟨_,_,_,h7,xI hnd q2 ?_⟩
  intro L E a w hL hT hH hF hGl
  left
  have hrv:=aK hT h1
  simp only[RV] at hrv
  obtain⟨u,Sj,hu⟩:=hrv
  have hmd:Made.depth≥1:=by decide
  obtain⟨n,hn⟩:∃n,P.types.size+Made.depth=n+1:=⟨P.types.size+(Made.depth -1),by omega⟩
  obtain⟨z,z1,z2⟩:=tn (P:=P) (w:=w) hH (fun _ _ hb=>hb) hu hfx n
  have hcall:=q3 L E w (z::c.args.toList.map a.eval) hL (aH.aw.2 ⟨_,_,rfl,z2,eD hT h3⟩) hH hF hGl
  refine⟨g,_,?_,hcall⟩
  simp only[execOp,c1,resolve,c2,Sem.run_bind,Sem.run_pure,Result.andThen_ok,invoke,Sj]
  have e1:(#[Value.iface t u]++c.args.map a.eval)[0]? =some (.iface t u):=by rw[Array.getElem?_append];rfl
  have e2:(#[Value.iface t u]++c.args.map a.eval).extract 1 (#[Value.iface t u]++c.args.map a.eval).size=c.args.map a.eval:=by
   apply Array.ext'
   simp
   apply List.take_of_length_le
   simp
  simp only[e1,e2,callMethod,Sem.run_bind,run_program,Result.andThen_ok]
  rw[hn,z1]
  simp only[Result.andThen_ok]
  rw[q1]
  congr 2
  apply Array.ext'
  simp
 ·cases h5
end
end Go.Cm
namespace Go.Cm
theorem pQ:∀(l:List Oper)(acc:List Nat),ft l acc=Abs.oC l acc
 |[],_=>rfl
 |_o::l,_acc=>pQ l _
theorem sd(acc:List Nat):∀(l:List Edge)(s k:Nat),s.testBit k=true→(l.foldl (fun s e=>if Region.binds .any e then s ||| 2^e.on ||| acc.getD e.on 0 else s) s).testBit k=true
 |[],s,k,h=>h
 |
  e::l,s,k,h=>by
  refine sd acc l _ k ?_
  simp only
  split
  ·simp[Nat.testBit_or,h]
  ·exact h
theorem vF(acc:List Nat):∀(l:List Edge)(s:Nat),∀e∈l,Region.binds .any e=true→(l.foldl (fun s e=>if Region.binds .any e then s ||| 2^e.on ||| acc.getD e.on 0 else s) s).testBit e.on=true
 |[],s,e,he,hb=>absurd he (by simp)
 |
  x::l,s,e,he,hb=>by
  rcases List.mem_cons.1 he with rfl|he
  ·refine sd acc l _ _ ?_
   simp only[hb,if_true,Nat.testBit_or,Nat.testBit_two_pow_self,Bool.or_true,Bool.true_or]
  ·exact vF acc l _ e he hb
theorem sf:∀(l:List Oper)(acc:List Nat)(j:Nat)(o:Oper),l[j]? =some o→∀e∈o.after.toList,Region.binds .any e=true→((ft l acc).getD (acc.length+j) 0).testBit e.on=true
 |[],acc,j,o',h,e,he,hb=>by simp at h
 |
  o::l,acc,0,o',h,e,he,hb=>by
  simp only[List.getElem?_cons_zero,Option.some.injEq] at h
  subst h
  show((ft l (acc++[uB acc o])).getD (acc.length+0) 0).testBit e.on=true
  have key:∀(l:List Oper)(acc:List Nat)(n:Nat),n<acc.length→(ft l acc).getD n 0=acc.getD n 0:=by
   intro l
   induction l with
   |nil=>intro acc n _;rfl
   |
    cons o l ih=>
    intro acc n hn
    show(ft l (acc++[uB acc o])).getD n 0=_
    rw[ih _ n (by simp;omega),List.getD_eq_getElem?_getD,List.getD_eq_getElem?_getD,List.getElem?_append_left hn]
  rw[key l _ _ (by simp),List.getD_eq_getElem?_getD,List.getElem?_append_right (by omega)]
  simp only[Nat.add_zero,Nat.sub_self,List.getElem?_cons_zero,Option.getD_some]
  exact vF acc _ 0 e he hb
 |
  o::l,acc,j+1,o',h,e,he,hb=>by
  have:=sf l (acc++[uB acc o]) j o' (by simpa using h) e he hb
  rw[List.length_append,List.length_singleton,show acc.length+1+j=acc.length+(j+1) from by omega] at this
  exact this
structure Bq(all:List Oper)(pl:List Pe):Prop where
 at_:∀(j:Nat) p,pl[j]? =some p→all[p.i]? =some p.o∧p.m=(ft all []).getD p.i 0∧p.ts=MZ all p.o.guard (MW p.o)
 Ol:∀i,i<all.length→∃(j:Nat)(p:Pe),pl[j]? =some p∧p.i=i
 inj:∀(j j':Nat) p p',pl[j]? =some p→pl[j']? =some p'→p.i=p'.i→j=j'
 sep:∀(i j:Nat) p q,i<j→pl[i]? =some p→pl[j]? =some q→q.m.testBit p.i=true∨jK p q=true
 ext:∀(j:Nat) p,pl[j]? =some p→∀i,p.m.testBit i=true→∃(j':Nat)(p':Pe),j'<j∧pl[j']? =some p'∧p'.i=i
theorem mr{p:Pe}:∀{l:List Pe},kQ p l=true→∀a∈l,p.m.testBit a.i=true∨jK a p=true
 |[],h,b,hb=>absurd hb (by simp)
 |
  a::l,h,b,hb=>by
  obtain⟨h1,h2⟩:=aI (show bn (@Bool.rec (fun _=>Bool) (jK a p) true (Nat.testBit p.m a.i)) (kQ p l)=true from h)
  rcases List.mem_cons.1 hb with rfl|hb
  ·cases hm:Nat.testBit p.m b.i with
   |true=>exact Or.inl rfl
   |false=>rw[hm] at h1;exact Or.inr h1
  ·exact mr h2 b hb
theorem vG{all:List Oper}{ms:List Nat}:∀{ord:List Nat}{done:Nat}{acc pl:List Pe},CJ all ms ord done acc=some pl→(∀i,done.testBit i=true↔∃a∈acc,a.i=i)→
 (∀p∈pl,all[p.i]? =some p.o∧p.m=ms.getD p.i 0∧p.ts=MZ all p.o.guard (MW p.o))∧(∀i,i<all.length→(∃a∈acc,a.i=i)∨∃p∈pl,p.i=i)∧
 (∀p∈pl,∀a∈acc,p.i≠a.i)∧(∀(j j':Nat) p p',pl[j]? =some p→pl[j']? =some p'→p.i=p'.i→j=j')∧
 (∀p∈pl,∀a∈acc,p.m.testBit a.i=true∨jK a p=true)∧(∀(i j:Nat) p q,i<j→pl[i]? =some p→pl[j]? =some q→q.m.testBit p.i=true∨jK p q=true)∧
 (∀(j:Nat) p,pl[j]? =some p→∀i,p.m.testBit i=true→(∃a∈acc,a.i=i)∨∃(j':Nat)(p':Pe),j'<j∧pl[j']? =some p'∧p'.i=i)
 |
  [],done,acc,pl,h,hd=>by
  obtain⟨h1,h2⟩:=ah (show bf (Nat.beq done (Nat.sub (Nat.pow 2 (lf all)) 1)) (some [])=some pl from h)
  cases h2
  have hdn:done=2^all.length -1:=by rw[gn] at h1;exact bg h1
  refine⟨fun p hp=>(by cases hp),fun i hi=>Or.inl ((hd i).1 ?_),fun p hp=>(by cases hp),fun j j' p p' hp=>(by simp at hp),fun p hp=>(by cases hp),fun i j p q _ hp=>(by simp at hp),fun j p hp=>(by simp at hp)⟩
  rw[hdn,Nat.testBit_two_pow_sub_one]
  exact decide_eq_true hi
 |
  i::ord,done,acc,pl,h,hd=>by
  obtain⟨p,hp,h1⟩:=aa (show(bO (M1 all ms i) fun p=>bf (Nat.beq (Nat.land p.m done) p.m) (bf (cJ (Nat.testBit done i)) (bf (kQ p acc) (bO (CJ all ms ord (Nat.lor done (Nat.pow 2 i)) (p::acc)) fun l=>some (p::l)))))=some pl from h)
  obtain⟨hl,h2⟩:=ah h1
  obtain⟨hn,h3⟩:=ah h2
  obtain⟨ht,h4⟩:=ah h3
  obtain⟨l,hl',h5⟩:=aa h4
  cases h5
  obtain⟨o,ho,h6⟩:=aa hp
  cases h6
  rw[dD] at ho
  have hn':done.testBit i=false:=by rw[dQ] at hn;simpa using hn
  have hland:∀k,(ms.getD i 0).testBit k=true→done.testBit k=true:=by
   intro k hk
   have e:Nat.land (ms.getD i 0) done=ms.getD i 0:=bg hl
   have:(ms.getD i 0 &&& done).testBit k=true:=by
    show(Nat.land (ms.getD i 0) done).testBit k=true
    rw[e];exact hk
   rw[Nat.testBit_and] at this
   simp only[Bool.and_eq_true] at this
   exact this.2
  have hd':∀k,(Nat.lor done (Nat.pow 2 i)).testBit k=true↔∃a∈(⟨i,o,ms.getD i 0,MZ all o.guard (MW o)⟩:Pe)::acc,a.i=k:=by
   intro k
   show(done ||| 2^i).testBit k=true↔_
   rw[Nat.testBit_or,Nat.testBit_two_pow,Bool.or_eq_true,hd k]
   constructor
   ·rintro(⟨a,h1,h2⟩|h)
    ·exact⟨a,List.mem_cons_of_mem _ h1,h2⟩
    ·exact⟨_,List.mem_cons_self ..,of_decide_eq_true h⟩
   ·rintro⟨a,h1,h2⟩
    rcases List.mem_cons.1 h1 with rfl|h1
    ·exact Or.inr (decide_eq_true h2)
    ·exact Or.inl ⟨a,h1,h2⟩
  obtain⟨i1,i2,i3,i4,i5,i6,i7⟩:=vG hl' hd'
  refine⟨?_,?_,?_,?_,?_,?_,?_⟩
  ·intro p hp
   rcases List.mem_cons.1 hp with rfl|hp
   ·exact⟨ho,rfl,rfl⟩
   ·exact i1 p hp
  ·intro k hk
   rcases i2 k hk with⟨a,h1,h2⟩|⟨p,h1,h2⟩
   ·rcases List.mem_cons.1 h1 with rfl|h1
    ·exact Or.inr ⟨_,List.mem_cons_self ..,h2⟩
    ·exact Or.inl ⟨a,h1,h2⟩
   ·exact Or.inr ⟨p,List.mem_cons_of_mem _ h1,h2⟩
  ·intro p hp a ha
   rcases List.mem_cons.1 hp with rfl|hp
   ·intro e
    have:=(hd i).2 ⟨a,ha,e.symm⟩
    rw[hn'] at this;cases this
   ·exact i3 p hp a (List.mem_cons_of_mem _ ha)
  ·intro j j' p p' hj hj' e
   cases j with
   |
    zero=>
    cases j' with
    |zero=>rfl
    |
     succ j'=>
     simp only[List.getElem?_cons_zero,Option.some.injEq] at hj
     subst hj
     exact absurd e.symm (i3 p' (List.mem_of_getElem? (by simpa using hj')) _ (List.mem_cons_self ..))
   |
    succ j=>
    cases j' with
    |
     zero=>
     simp only[List.getElem?_cons_zero,Option.some.injEq] at hj'
     subst hj'
     exact absurd e (i3 p (List.mem_of_getElem? (by simpa using hj)) _ (List.mem_cons_self ..))
    |succ j'=>rw[i4 j j' p p' (by simpa using hj) (by simpa using hj') e]
  ·intro p hp a ha
   rcases List.mem_cons.1 hp with rfl|hp
   ·exact mr ht a ha
   ·exact i5 p hp a (List.mem_cons_of_mem _ ha)
  ·intro a b p q hab hp hq
   cases b with
   |zero=>omega
   |
    succ b=>
    cases a with
    |
     zero=>
     simp only[List.getElem?_cons_zero,Option.some.injEq] at hp
     subst hp
     exact i5 q (List.mem_of_getElem? (by simpa using hq)) _ (List.mem_cons_self ..)
    |succ a=>exact i6 a b p q (by omega) (by simpa using hp) (by simpa using hq)
  ·intro j p hj k hk
   cases j with
   |
    zero=>
    simp only[List.getElem?_cons_zero,Option.some.injEq] at hj
    subst hj
    exact Or.inl ((hd k).1 (hland k hk))
   |
    succ j=>
    rcases i7 j p (by simpa using hj) k hk with⟨a,h1,h2⟩|⟨j',p',h1,h2,h3⟩
    ·rcases List.mem_cons.1 h1 with rfl|h1
     ·exact Or.inr ⟨0,_,by omega,rfl,h2⟩
     ·exact Or.inl ⟨a,h1,h2⟩
    ·exact Or.inr ⟨j'+1,p',by omega,by simpa using h2,h3⟩
theorem Ap{all:List Oper}{pl:List Pe}(h:yj all=some pl):Bq all pl:=by
 obtain⟨h1,h2,h3,h4,h5,h6,h7⟩:=vG h (fun i=>by simp)
 refine⟨fun j p hp=>h1 p (List.mem_of_getElem? hp),?_,h4,h6,?_⟩
 ·intro i hi
  rcases h2 i hi with⟨a,ha,_⟩|⟨p,hp,e⟩
  ·cases ha
  ·obtain⟨j,hj⟩:=List.getElem?_of_mem hp
   exact⟨j,p,hj,e⟩
 ·intro j p hj k hk
  rcases h7 j p hj k hk with⟨a,ha,_⟩|h
  ·cases ha
  ·exact h
theorem Br(tm:T V):∀(ts:List Tmp),∃m l,(∀{β:Type}(k:T V→List Id→β),MX tm ts k=k m l)∧∀t x,get t m=some x→(∃n∈ts,t=aB n)∧get t tm=some x
 |[]=>⟨.e,[],fun _=>rfl,fun t x h=>by rw[gM] at h;cases h⟩
 |
  t::ts=>by
  obtain⟨m,l,h1,h2⟩:=Br tm ts
  cases hg:get (aB t) tm with
  |
   none=>
   refine⟨m,l,fun k=>?_,fun u x hu=>?_⟩
   ·show(MX tm ts fun m l=>@Option.rec V (fun _=>_) (k m l) (fun v=>dx (some v) (aB t) m fun m=>k m (N9 v l)) (get (aB t) tm))=_
    rw[h1,hg]
   ·obtain⟨⟨n,q1,q2⟩,q3⟩:=h2 u x hu
    exact⟨⟨n,List.mem_cons_of_mem _ q1,q2⟩,q3⟩
  |
   some v=>
   refine⟨put (some v) (aB t) m,N9 v l,fun k=>?_,fun u x hu=>?_⟩
   ·show(MX tm ts fun m l=>@Option.rec V (fun _=>_) (k m l) (fun v=>dx (some v) (aB t) m fun m=>k m (N9 v l)) (get (aB t) tm))=_
    rw[h1,hg]
    exact bV _ _ _ _
   ·rw[bJ] at hu
    split at hu
    ·rename_i e;subst e;cases hu
     exact⟨⟨t,List.mem_cons_self ..,rfl⟩,hg⟩
    ·obtain⟨⟨n,q1,q2⟩,q3⟩:=h2 u x hu
     exact⟨⟨n,List.mem_cons_of_mem _ q1,q2⟩,q3⟩
theorem Aq{all:List Oper}{tm:T V}{g:Option (Nat×Bool)}{wt:Bool}(h:want all tm g=some wt)(l:List Tmp):
 ∃m,(∀t x,get t m=some x→(∃n∈MZ all g l,t=aB n)∧get t tm=some x)∧want all m g=some wt:=by
 cases g with
 |none=>exact⟨.e,⟨fun t x hx=>(by rw[gM] at hx;cases hx),h⟩⟩
 |
  some p=>
  obtain⟨o,h1,h2⟩:=aa (show(bO (eK all p.1) fun o=>bO o.dst fun d=>bO (get (aB d) tm) fun v=>qO v fun b=>some (@Bool.rec (fun _=>Bool) (cJ p.2) p.2 b))=some wt from h)
  obtain⟨d,h3,h4⟩:=aa h2
  obtain⟨v,h5,h6⟩:=aa h4
  refine⟨put (some v) (aB d) .e,fun t x hx=>?_,?_⟩
  ·rw[bJ] at hx
   split at hx
   ·rename_i e;subst e;cases hx
    refine⟨⟨d,?_,rfl⟩,h5⟩
    show d∈@Option.rec Oper (fun _=>List Tmp) l (fun o=>@Option.rec Tmp (fun _=>List Tmp) l (fun t=>t::l) o.dst) (eK all p.1)
    rw[h1]
    show d∈@Option.rec Tmp (fun _=>List Tmp) l (fun t=>t::l) o.dst
    rw[h3]
    exact List.mem_cons_self ..
   ·rw[gM] at hx;cases hx
  ·show(bO (eK all p.1) fun o=>bO o.dst fun d'=>bO (get (aB d') (put (some v) (aB d) .e)) fun v=>qO v fun b=>some (@Bool.rec (fun _=>Bool) (cJ p.2) p.2 b))=some wt
   rw[h1]
   show(bO o.dst fun d'=>bO (get (aB d') (put (some v) (aB d) .e)) fun v=>qO v fun b=>some (@Bool.rec (fun _=>Bool) (cJ p.2) p.2 b))=some wt
   rw[h3]
   show(bO (get (aB d) (put (some v) (aB d) .e)) fun v=>qO v fun b=>some (@Bool.rec (fun _=>Bool) (cJ p.2) p.2 b))=some wt
   rw[bA]
   exact h6
def At(P:Program)(gl:List V)(all:List Oper)(sz:Nat)(p:Pe)(tm:T V)(hp:T aj)(nx:Id)(Sf:T V)(R0:T aj)(RY:Id)(rc:Rc):Prop:=
 l9 sz p.o.dst=true∧∃wt,want all tm p.o.guard=some wt∧
  (
   (wt=false∧Sf=Bh p.o.dst none tm∧R0=hp∧RY=nx∧rc= .pl p.i [] [] none)∨
   (
    wt=true∧∃SR v,(∀t x,get t SR=some x→(∃n∈p.ts,t=aB n)∧get t tm=some x)∧Sf=Bh p.o.dst (some v) tm∧
    (
     (∃ids lc e,rc= .pl p.i ids (fR e nx) lc∧v=e.val∧R0=e.hp nx hp∧RY=e.nx nx∧oN e ids=true∧
      ∀S:Id→Option aj,(∀c∈ids,S c=get c hp∨∃o n,lc=some (c,o,n)∧cl o n (S c)=cl o n (get c hp))→lk P gl p.o SR (dA S ids) nx e.val (e.hp nx (dA S ids)) (e.nx nx))∨
     (rc= .cl p.i hp R0∧lk P gl p.o SR hp nx v R0 RY))))
def lN(m:Nat)(a b:Rc):Prop:=m.testBit (Ip a)=true∨indep a b=true
theorem gu{m:Nat}{r:Rc}:∀{l:List Rc},cG m r l=true→∀a∈l,lN m a r
 |[],h,b,hb=>absurd hb (by simp)
 |
  a::l,h,b,hb=>by
  obtain⟨h1,h2⟩:=aI (show bn (@Bool.rec (fun _=>Bool) (indep a r) true (Nat.testBit m (Ip a))) (cG m r l)=true from h)
  rcases List.mem_cons.1 hb with rfl|hb
  ·cases hm:Nat.testBit m (Ip b) with
   |true=>exact Or.inl hm
   |false=>rw[hm] at h1;exact Or.inr h1
  ·exact gu h2 b hb
theorem vH{p:Id→Bool}:∀{l:List Id},(∀b,p b=true)→allI p l=true
 |[],_=>rfl
 |a::l,h=>by show bn (p a) (allI p l)=true;rw[h a,vH h];rfl
theorem Ar{a:Rc}{i:Nat}{lc:Option (Id×Nat×Nat)}:indep a (.pl i [] [] lc)=true:=by
 cases a with
 |
  pl j rd wr lc'=>
  show bn (gU wr []) (bn (gU wr []) (gU [] rd))=true
  have:gU [] rd=true:=vH (fun b=>rfl)
  rw[this];rfl
 |cl j h0 h1=>rfl
section
variable{P:Program} {gl:List V} {ih:dc} {hf:Hk}
theorem II{β:Type}(o:Op)(ids:List Id)(k:List Id→β):∃l,Oa o ids k=k l:=by
 unfold Oa
 cases M3 o with
 |false=>exact⟨[],rfl⟩
 |true=>exact⟨ids,rfl⟩
theorem sg{S:Id→Option aj}{hp:T aj}{ids:List Id}(h:∀c∈ids,S c=get c hp):(fun b=>get b (dA S ids))=DU ids hp:=by
 funext b
 rw[iV,Bo]
 split
 ·rename_i hb;exact h b hb
 ·rfl
theorem Bs{p:Pe}{SR:T V}{hp:T aj}{nx:Id}{ids:List Id}{f:EH}{e:bw}(hc:c6 P gl p.o.op= .op f)(h:f SR (DU ids hp) nx=some e)(S:Id→Option aj)
 (hS:∀c∈ids,S c=get c hp∨∃o n,rT P SR p.o.op=some (c,o,n)∧cl o n (S c)=cl o n (get c hp)):lk P gl p.o SR (dA S ids) nx e.val (e.hp nx (dA S ids)) (e.nx nx):=by
 refine Qx hc ?_
 obtain⟨c1,_,_⟩:=qS hc
 by_cases hl:∃c o n,rT P SR p.o.op=some (c,o,n)∧c∈ids∧cl o n (S c)=cl o n (get c hp)
 ·obtain⟨c,o,n,q1,q2,q3⟩:=hl
  refine Ao c1 q1 h ?_
  rw[iV,Bo,if_pos q2,if_pos q2];exact q3
 ·have:∀c∈ids,S c=get c hp:=by
   intro c hcm
   rcases hS c hcm with h|⟨o,n,q1,q2⟩
   ·exact h
   ·exact absurd ⟨c,o,n,q1,hcm,q2⟩ hl
  rw[sg this];exact h
theorem pR(hI:rW P gl ih)(hG:vB P gl hf){sz:Nat}{all:List Oper}:∀{pl:List Pe}{rs:List Rc}{tm:T V}{hp:T aj}{nx:Id}{df:V}{x:Xt}{Sf:T V}{R0:T aj}{RY:Id}{Si:V},
 mH P gl hf ih sz all pl rs tm hp nx df=some (.mk x Sf R0 RY Si)→x= .gH∧Si=df∧∃(SN:Nat→T V)(Sr:Nat→T aj)(SI:Nat→Id)(Sp:Nat→Rc),
  SN 0=tm∧Sr 0=hp∧SI 0=nx∧SN pl.length=Sf∧Sr pl.length=R0∧SI pl.length=RY∧
  ∀(j:Nat) p,pl[j]? =some p→At P gl all sz p (SN j) (Sr j) (SI j) (SN (j+1)) (Sr (j+1)) (SI (j+1)) (Sp j)∧Ip (Sp j)=p.i∧(∀r∈rs,lN p.m r (Sp j))∧∀i,i<j→lN p.m (Sp i) (Sp j)
 |
  [],rs,tm,hp,nx,df,x,Sf,R0,RY,Si,h=>by
  cases(show some (Rs.mk .gH tm hp nx df)=some (.mk x Sf R0 RY Si) from h)
  exact⟨rfl,rfl,fun _=>tm,fun _=>hp,fun _=>nx,fun _=>.pl 0 [] [] none,rfl,rfl,rfl,rfl,rfl,rfl,fun j p hp=>by simp at hp⟩
 |
  p::pl,rs,tm,hp,nx,df,x,Sf,R0,RY,Si,h=>by
  obtain⟨hd,h1⟩:=ah (show bf (l9 sz p.o.dst) (bO (want all tm p.o.guard) fun w=>@Bool.rec (fun _=>Option Rs)
   (gO p.o.dst none tm fun tm=>mH P gl hf ih sz all pl (.pl p.i [] [] none::rs) tm hp nx df)
   (MX tm p.ts fun SR ids0=>Oa p.o.op ids0 fun ids=>@JC.casesOn (fun _=>Option Rs) (c6 P gl p.o.op)
    (fun f=>bO (f SR (DU ids hp) nx) fun e=>bf (oN e ids) (bf (cG p.m (.pl p.i ids (fR e nx) (rT P SR p.o.op)) rs) (nX e p.o.dst tm hp nx df (mH P gl hf ih sz all pl (.pl p.i ids (fR e nx) (rT P SR p.o.op)::rs)))))
    (fun b args ts=>bO (je SR args) fun a=>bO (fP P (DU ids hp) nx b ts a) fun e=>bf (oN e ids) (bf (cG p.m (.pl p.i ids (fR e nx) none) rs) (nX e p.o.dst tm hp nx df (mH P gl hf ih sz all pl (.pl p.i ids (fR e nx) none::rs)))))
    (fun f args=>bO (eZ SR f) fun fv=>bO (je SR args) fun a=>wD P hf ih fv a hp nx fun v cX ei=>bf (cG p.m (.cl p.i hp cX) rs) (gO p.o.dst (some v) tm fun tm=>mH P gl hf ih sz all pl (.cl p.i hp cX::rs) tm cX ei df))
    (fun r name args=>bO (eZ SR r) fun r=>bO (je SR args) fun a=>r.EC (fun t v=>bO (nY P (fun b=>get b hp) t v name) fun fx=>jf P hf ih (jg P ih) fx.1 (.cons fx.2 a) hp nx fun v cX ei=>bf (cG p.m (.cl p.i hp cX) rs) (gO p.o.dst (some v) tm fun tm=>mH P gl hf ih sz all pl (.cl p.i hp cX::rs) tm cX ei df)) none)
    (fun _ _=>none) none) w)=some (.mk x Sf R0 RY Si) from h)
  obtain⟨wt,hw,h2⟩:=aa h1
  have step:∀(rc:Rc)(j8:T V)(cX:T aj)(ei:Id),Ip rc=p.i→At P gl all sz p tm hp nx j8 cX ei rc→(∀r∈rs,lN p.m r rc)→mH P gl hf ih sz all pl (rc::rs) j8 cX ei df=some (.mk x Sf R0 RY Si)→
   x= .gH∧Si=df∧∃(SN:Nat→T V)(Sr:Nat→T aj)(SI:Nat→Id)(Sp:Nat→Rc),
    SN 0=tm∧Sr 0=hp∧SI 0=nx∧SN (p::pl).length=Sf∧Sr (p::pl).length=R0∧SI (p::pl).length=RY∧
    ∀(j:Nat) q,(p::pl)[j]? =some q→At P gl all sz q (SN j) (Sr j) (SI j) (SN (j+1)) (Sr (j+1)) (SI (j+1)) (Sp j)∧Ip (Sp j)=q.i∧(∀r∈rs,lN q.m r (Sp j))∧∀i,i<j→lN q.m (Sp i) (Sp j):=by
   intro rc j8 cX ei hrc hat SJ hrest
   obtain⟨e1,e2,SN,Sr,SI,Sp,a1,a2,a3,a4,a5,a6,a7⟩:=pR hI hG hrest
   refine⟨e1,e2,fun n=>Nat.casesOn n tm SN,fun n=>Nat.casesOn n hp Sr,fun n=>Nat.casesOn n nx SI,fun n=>Nat.casesOn n rc Sp,rfl,rfl,rfl,a4,a5,a6,?_⟩
   intro j q hj
   cases j with
   |
    zero=>
    simp only[List.getElem?_cons_zero,Option.some.injEq] at hj
    subst hj
    refine⟨?_,hrc,SJ,fun i hi=>by omega⟩
    show At P gl all sz p tm hp nx (SN 0) (Sr 0) (SI 0) rc
    rw[a1,a2,a3];exact hat
   |
    succ j=>
    obtain⟨b1,b2,b3,b4⟩:=a7 j q (by simpa using hj)
    refine⟨b1,b2,fun r hr=>b3 r (List.mem_cons_of_mem _ hr),fun i hi=>?_⟩
    cases i with
    |zero=>exact b3 rc (List.mem_cons_self ..)
    |succ i=>exact b4 i (by omega)
  cases wt with
  |
   false=>
   have h3:gO p.o.dst none tm (fun tm=>mH P gl hf ih sz all pl (.pl p.i [] [] none::rs) tm hp nx df)=some (.mk x Sf R0 RY Si):=h2
   rw[eE] at h3
   exact step _ _ _ _ rfl ⟨hd,false,hw,Or.inl ⟨rfl,rfl,rfl,rfl,rfl⟩⟩ (fun r _=>Or.inr Ar) h3
  |
   true=>
   obtain⟨SR,ids0,hR,Sl⟩:=Br tm p.ts
   have h3:=h2
   simp only[hR] at h3
   obtain⟨ids,hids⟩:=II p.o.op ids0 (fun ids=>@JC.casesOn (fun _=>Option Rs) (c6 P gl p.o.op)
    (fun f=>bO (f SR (DU ids hp) nx) fun e=>bf (oN e ids) (bf (cG p.m (.pl p.i ids (fR e nx) (rT P SR p.o.op)) rs) (nX e p.o.dst tm hp nx df (mH P gl hf ih sz all pl (.pl p.i ids (fR e nx) (rT P SR p.o.op)::rs)))))
    (fun b args ts=>bO (je SR args) fun a=>bO (fP P (DU ids hp) nx b ts a) fun e=>bf (oN e ids) (bf (cG p.m (.pl p.i ids (fR e nx) none) rs) (nX e p.o.dst tm hp nx df (mH P gl hf ih sz all pl (.pl p.i ids (fR e nx) none::rs)))))
    (fun f args=>bO (eZ SR f) fun fv=>bO (je SR args) fun a=>wD P hf ih fv a hp nx fun v cX ei=>bf (cG p.m (.cl p.i hp cX) rs) (gO p.o.dst (some v) tm fun tm=>mH P gl hf ih sz all pl (.cl p.i hp cX::rs) tm cX ei df))
    (fun r name args=>bO (eZ SR r) fun r=>bO (je SR args) fun a=>r.EC (fun t v=>bO (nY P (fun b=>get b hp) t v name) fun fx=>jf P hf ih (jg P ih) fx.1 (.cons fx.2 a) hp nx fun v cX ei=>bf (cG p.m (.cl p.i hp cX) rs) (gO p.o.dst (some v) tm fun tm=>mH P gl hf ih sz all pl (.cl p.i hp cX::rs) tm cX ei df)) none)
    (fun _ _=>none) none)
   rw[hids] at h3
   cases hc:c6 P gl p.o.op with
   |
    op f=>
    rw[hc] at h3
    obtain⟨e,h4,h5⟩:=aa h3
    obtain⟨hin,h6⟩:=ah h5
    obtain⟨SJ,h7⟩:=ah h6
    exact step _ _ _ _ rfl ⟨hd,true,hw,Or.inr ⟨rfl,SR,e.val,Sl,rfl,Or.inl ⟨ids,_,e,rfl,rfl,rfl,rfl,hin,fun S hS=>Bs hc h4 S hS⟩⟩⟩ (fun r hr=>gu SJ r hr) (kR h7)
   |
    blt b args ts=>
    rw[hc] at h3
    obtain⟨a,h4,h5⟩:=aa h3
    obtain⟨e,h6,h7⟩:=aa h5
    obtain⟨hin,h8⟩:=ah h7
    obtain⟨SJ,h9⟩:=ah h8
    refine step _ _ _ _ rfl ⟨hd,true,hw,Or.inr ⟨rfl,SR,e.val,Sl,rfl,Or.inl ⟨ids,none,e,rfl,rfl,rfl,rfl,hin,fun S hS=>Oh hc h4 ?_⟩⟩⟩ (fun r hr=>gu SJ r hr) (kR h9)
    have:∀c∈ids,S c=get c hp:=by
     intro c hcm
     rcases hS c hcm with h|⟨o,n,q1,_⟩
     ·exact h
     ·cases q1
    rw[sg this];exact h6
   |
    val f args=>
    rw[hc] at h3
    obtain⟨fv,h4,h5⟩:=aa h3
    obtain⟨a,h6,h7⟩:=aa h5
    obtain⟨v,cX,ei,h8,hst⟩:=Oi hI hG hc h4 h6 h7
    obtain⟨SJ,h9⟩:=ah h8
    rw[eE] at h9
    exact step _ _ _ _ rfl ⟨hd,true,hw,Or.inr ⟨rfl,SR,v,Sl,rfl,Or.inr ⟨rfl,hst⟩⟩⟩ (fun r hr=>gu SJ r hr) h9
   |
    inv r name args=>
    rw[hc] at h3
    obtain⟨rv,h4,h5⟩:=aa h3
    obtain⟨a,h6,h7⟩:=aa h5
    obtain⟨v,cX,ei,h8,hst⟩:=Oj hI hG hc h4 h6 h7
    obtain⟨SJ,h9⟩:=ah h8
    rw[eE] at h9
    exact step _ _ _ _ rfl ⟨hd,true,hw,Or.inr ⟨rfl,SR,v,Sl,rfl,Or.inr ⟨rfl,hst⟩⟩⟩ (fun r hr=>gu SJ r hr) h9
   |wE f args=>rw[hc] at h3;cases h3
   |no=>rw[hc] at h3;cases h3
end
end Go.Cm
namespace Go.Cm
theorem Bt{e:bw}{ids:List Id}{nx:Id}(h:oN e ids=true):∀b∈fR e nx,b∈ids∨(b=nx∧∀hp,∃k,get b (e.hp nx hp)=some k):=by
 intro b hb
 cases e with
 |v x=>cases hb
 |
  nw x k=>
  have:b=nx:=by simpa[fR] using hb
  subst this
  exact Or.inr ⟨rfl,fun hp=>⟨k,bA _ _ _⟩⟩
 |
  ch x c k=>
  have:b=c:=by simpa[fR] using hb
  subst this
  exact Or.inl (gT.1 h)
 |
  mv x c k=>
  have:b=c∨b=nx:=by simpa[fR] using hb
  rcases this with rfl|rfl
  ·exact Or.inl (gT.1 h)
  ·exact Or.inr ⟨rfl,fun hp=>⟨k,bA _ _ _⟩⟩
theorem sj{e:bw}{nx b:Id}(h:b∉fR e nx)(hp:T aj):get b (e.hp nx hp)=get b hp:=by
 cases e with
 |v x=>rfl
 |nw x k=>exact fU _ (by simpa[fR] using h) _
 |ch x c k=>exact fU _ (by simpa[fR] using h) _
 |
  mv x c k=>
  have h:¬b=c∧¬b=nx:=by simpa[fR] using h
  show get b (put (some k) nx (put none c hp))=_
  rw[fU _ h.2,fU _ h.1]
theorem Bu{e:bw}{nx b:Id}(h:b∈fR e nx)(hp nC:T aj):get b (e.hp nx hp)=get b (e.hp nx nC):=by
 cases e with
 |v x=>cases h
 |
  nw x k=>
  have:b=nx:=by simpa[fR] using h
  subst this
  show get b (put (some k) b hp)=get b (put (some k) b nC)
  rw[bA,bA]
 |
  ch x c k=>
  have:b=c:=by simpa[fR] using h
  subst this
  show get b (put (some k) b hp)=get b (put (some k) b nC)
  rw[bA,bA]
 |
  mv x c k=>
  have h:b=c∨b=nx:=by simpa[fR] using h
  show get b (put (some k) nx (put none c hp))=get b (put (some k) nx (put none c nC))
  rw[bJ,bJ (q:=b) (p:=nx)]
  split
  ·rfl
  ·rename_i R7
   have:b=c:=h.resolve_right R7
   subst this
   rw[bA,bA]
def CB(rc:Rc)(b:Id):Prop:=
 match rc with
 | .pl _ _ wr _=>b∈wr
 | .cl _ h0 h1=>get b h0≠get b h1
def CT(p:Pe)(t:Id):Prop:=∃d,p.o.dst=some d∧t=aB d
theorem sk{d:Option Tmp}{v:Option V}{tm:T V}{t:Id}(h:¬∃n,d=some n∧t=aB n):get t (Bh d v tm)=get t tm:=by
 cases d with
 |none=>rfl
 |some n=>exact fU _ (fun e=>h ⟨n,rfl,e⟩) _
section
variable{P:Program} {gl:List V} {all:List Oper} {sz:Nat} {p:Pe} {tm Sf:T V} {hp R0:T aj} {nx RY:Id} {rc:Rc}
theorem At.cb(h:At P gl all sz p tm hp nx Sf R0 RY rc){b:Id}(hb:¬CB rc b):get b hp=get b R0:=by
 obtain⟨_,wt,_,⟨_,_,rfl,_,_⟩|⟨_,SR,v,_,_,⟨ids,lc,e,rfl,_,rfl,_,_,_⟩|⟨rfl,_⟩⟩⟩:=h
 ·rfl
 ·exact(sj hb hp).symm
 ·exact Classical.not_not.1 hb
theorem At.ct(h:At P gl all sz p tm hp nx Sf R0 RY rc){t:Id}(ht:¬CT p t):get t tm=get t Sf:=by
 obtain⟨_,wt,_,⟨_,rfl,_⟩|⟨_,SR,v,_,rfl,_⟩⟩:=h
 ·exact(sk ht).symm
 ·exact(sk ht).symm
theorem At.DT(h:At P gl all sz p tm hp nx Sf R0 RY rc):num nx≤num RY:=by
 obtain⟨_,wt,_,⟨_,_,_,rfl,_⟩|⟨_,SR,v,_,_,⟨ids,lc,e,_,_,_,rfl,_,_⟩|⟨_,h⟩⟩⟩:=h
 ·exact Nat.le_refl _
 ·exact uI e nx
 ·exact h.1
end
theorem DZ{a b:Rc}(h:indep a b=true)(c:Id):¬(CB a c∧CB b c):=by
 rintro⟨ha,hb⟩
 cases a with
 |
  pl i rd wr lc=>
  cases b with
  |
   pl j rd' wr' lc'=>
   obtain⟨_,h2⟩:=aI (show bn (gU wr rd') (bn (gU wr wr') (gU wr' rd))=true from h)
   exact tP (aI h2).1 c hb ha
  |
   cl j h0 h1=>
   obtain⟨h2,_⟩:=aI (show bn (allI (fun c=>bn (Bg h0 c) (Bg h1 c)) wr) (allI (nZ lc h0 h1) rd)=true from h)
   obtain⟨q1,q2⟩:=aI (iU h2 c ha)
   exact hb ((pP q1).trans (pP q2).symm)
 |
  cl i h0 h1=>
  cases b with
  |
   pl j rd wr lc=>
   obtain⟨h2,_⟩:=aI (show bn (allI (fun c=>bn (Bg h0 c) (Bg h1 c)) wr) (allI (nZ lc h0 h1) rd)=true from h)
   obtain⟨q1,q2⟩:=aI (iU h2 c hb)
   exact ha ((pP q1).trans (pP q2).symm)
  |cl j h0' h1'=>cases h
theorem pS{a b:Rc}(h:indep a b=true):indep b a=true:=by
 cases a with
 |
  pl i rd wr lc=>
  cases b with
  |
   pl j rd' wr' lc'=>
   obtain⟨h1,h2⟩:=aI (show bn (gU wr rd') (bn (gU wr wr') (gU wr' rd))=true from h)
   obtain⟨h3,h4⟩:=aI h2
   have sw:gU wr' wr=true:=by
    have:∀l,(∀b∈l,b∉wr')→gU wr' l=true:=by
     intro l
     induction l with
     |nil=>intro _;rfl
     |
      cons x l ih=>
      intro hl
      show bn (cJ (qP x wr')) (gU wr' l)=true
      rw[ih (fun b hb=>hl b (List.mem_cons_of_mem _ hb))]
      have:qP x wr'=false:=by
       cases hm:qP x wr' with
       |false=>rfl
       |true=>exact absurd (gT.1 hm) (hl x (List.mem_cons_self ..))
      rw[this];rfl
    exact this wr (fun b hb hm=>tP h3 b hm hb)
   show bn (gU wr' rd) (bn (gU wr' wr) (gU wr rd'))=true
   rw[h1,h4,sw];rfl
  |cl j h0 h1=>exact h
 |
  cl i h0 h1=>
  cases b with
  |pl j rd wr lc=>exact h
  |cl j h0' h1'=>cases h
theorem D0{i j:Nat}{rd wr:List Id}{lc:Option (Id×Nat×Nat)}{h0 h1:T aj}(h:indep (.cl i h0 h1) (.pl j rd wr lc)=true){c:Id}(hc:c∈rd):get c h0=get c h1∨∃o n,lc=some (c,o,n)∧cl o n (get c h0)=cl o n (get c h1):=by
 obtain⟨_,h2⟩:=aI (show bn (allI (fun c=>bn (Bg h0 c) (Bg h1 c)) wr) (allI (nZ lc h0 h1) rd)=true from h)
 have:=iU h2 c hc
 unfold nZ at this
 cases hb:CF (get c h0) (get c h1) with
 |true=>exact Or.inl (Bm hb)
 |
  false=>
  rw[hb] at this
  cases lc with
  |none=>cases this
  |
   some q=>
   obtain⟨d,o,n⟩:=q
   obtain⟨q1,q2⟩:=aI (show bn (jS d c) (CG o n (get c h0) (get c h1))=true from this)
   have:=iG q1;subst this
   exact Or.inr ⟨o,n,rfl,Bn q2⟩
theorem Bv{i j:Nat}{rd wr rd' wr':List Id}{lc lc':Option (Id×Nat×Nat)}(h:indep (.pl i rd wr lc) (.pl j rd' wr' lc')=true){c:Id}(hc:c∈rd'):c∉wr:=by
 obtain⟨h1,_⟩:=aI (show bn (gU wr rd') (bn (gU wr wr') (gU wr' rd))=true from h)
 exact tP h1 c hc
theorem As{i j:Nat}{rd wr:List Id}{lc:Option (Id×Nat×Nat)}{h0 h1:T aj}(h:indep (.pl i rd wr lc) (.cl j h0 h1)=true){c:Id}{k:aj}(hc:get c h0=some k):c∉wr:=by
 obtain⟨h2,_⟩:=aI (show bn (allI (fun c=>bn (Bg h0 c) (Bg h1 c)) wr) (allI (nZ lc h0 h1) rd)=true from h)
 intro hw
 have:=pP (aI (iU h2 c hw)).1
 rw[hc] at this;cases this
theorem nE{a b:Pe}(h:jK a b=true):(∀d,a.o.dst=some d→d∉b.ts)∧(∀d,b.o.dst=some d→d∉a.ts)∧∀d,a.o.dst=some d→b.o.dst≠some d:=by
 obtain⟨h1,h2⟩:=aI (show bn (cJ (s0 a.o.dst b.ts)) (bn (cJ (s0 b.o.dst a.ts)) (cJ (CI a.o.dst b.o.dst)))=true from h)
 obtain⟨h3,h4⟩:=aI h2
 have key:∀(d:Option Tmp)(l:List Tmp),cJ (s0 d l)=true→∀t,d=some t→t∉l:=by
  intro d l h t ht hm
  subst ht
  have:s0 (some t) l=true:=vD.2 hm
  rw[this] at h;cases h
 refine⟨key _ _ h1,key _ _ h3,fun d hd he=>?_⟩
 rw[hd,he] at h4
 have:CI (some d) (some d)=true:=Nat.beq_refl d
 rw[this] at h4;cases h4
section
variable{P:Program} {gl:List V} {ops:Array Oper} {sz:Nat} {pl:List Pe} {SN:Nat→T V} {Sr:Nat→T aj} {SI:Nat→Id} {Sp:Nat→Rc}
structure Tr(P:Program)(gl:List V)(ops:Array Oper)(sz:Nat)(pl:List Pe)(SN:Nat→T V)(Sr:Nat→T aj)(SI:Nat→Id)(Sp:Nat→Rc):Prop where
 pT:Bq ops.toList pl
 at_:∀(j:Nat) p,pl[j]? =some p→At P gl ops.toList sz p (SN j) (Sr j) (SI j) (SN (j+1)) (Sr (j+1)) (SI (j+1)) (Sp j)
 ri:∀(j:Nat) p,pl[j]? =some p→Ip (Sp j)=p.i
 ind:∀(j:Nat) p,pl[j]? =some p→∀i,i<j→lN p.m (Sp i) (Sp j)
def aJ(pl:List Pe)(listed:Array Bool)(j:Nat):Bool:=match pl[j]? with
 |some p=>listed.getD p.i false
 |none=>false
noncomputable def SH(Sr:Nat→T aj)(Sp:Nat→Rc)(N:Nat)(X:Nat→Bool)(b:Id):Option aj:=sx X (fun j=>CB (Sp j) b) (fun j=>get b (Sr j)) N
def Bw(pl:List Pe)(j:Nat)(t:Id):Prop:=∃p,pl[j]? =some p∧CT p t
noncomputable def ST(SN:Nat→T V)(pl:List Pe)(N:Nat)(X:Nat→Bool)(t:Id):Option V:=sx X (fun j=>Bw pl j t) (fun j=>get t (SN j)) N
theorem Tr.hC(h:Tr P gl ops sz pl SN Sr SI Sp){b:Id}{i:Nat}(hi:i<pl.length)(hb:¬CB (Sp i) b):get b (Sr i)=get b (Sr (i+1)):=
 (h.at_ i pl[i] (by simp[hi])).cb hb
theorem Tr.tC(h:Tr P gl ops sz pl SN Sr SI Sp){t:Id}{i:Nat}(hi:i<pl.length)(ht:¬Bw pl i t):get t (SN i)=get t (SN (i+1)):=
 (h.at_ i pl[i] (by simp[hi])).ct (fun hc=>ht ⟨pl[i],by simp[hi],hc⟩)
def pU(ops:Array Oper)(listed:Array Bool):Prop:=∀j o,ops[j]? =some o→listed.getD j false=true→∀e∈o.after.toList,Region.binds .any e=true→listed.getD e.on false=true
theorem vI{listed:Array Bool}(hcl:pU ops listed){i k:Nat}(hi:listed.getD i false=true)(hk:((ft ops.toList []).getD i 0).testBit k=true):listed.getD k false=true:=by
 rw[pQ] at hk
 refine Abs.kX (X:=fun x=>listed.getD x false) ops.toList [] (fun j k _ h=>by simp at h) ?_ i k hi hk
 intro j o ho hj e he hb
 simp only[List.length_nil,Nat.zero_add] at hj
 exact hcl j o (by simpa using ho) hj e he hb
theorem xJ{listed:Array Bool}(hcl:pU ops listed){i k:Nat}{o:Oper}(ho:ops[i]? =some o)(hpre:∀e∈o.after.toList,Region.binds .any e=true→listed.getD e.on false=true)(hki:k≠i)(hk:((ft ops.toList []).getD i 0).testBit k=true):listed.getD k false=true:=by
 rw[pQ] at hk
 have:=Abs.kX (X:=fun x=>listed.getD x false||x==i) ops.toList [] (fun j k _ h=>by simp at h) (by
  intro j o' ho' hj e he hb
  simp only[List.length_nil,Nat.zero_add,Bool.or_eq_true,beq_iff_eq] at hj ⊢
  rcases hj with hj|hj
  ·exact Or.inl (hcl j o' (by simpa using ho') hj e he hb)
  ·subst hj
   have:o'=o:=by
    have h2:ops[j]? =some o':=by simpa using ho'
    rw[ho] at h2;cases h2;rfl
   subst this
   exact Or.inl (hpre e he hb)) i k (by simp) hk
 simp only[Bool.or_eq_true,beq_iff_eq] at this
 exact this.resolve_right hki
theorem vJ(h:Tr P gl ops sz pl SN Sr SI Sp){listed:Array Bool}(hcl:pU ops listed){k:Nat}{p:Pe}(hk:pl[k]? =some p){o:Oper}(ho:ops[p.i]? =some o)(hun:listed.getD p.i false=false)(hpre:∀e∈o.after.toList,Region.binds .any e=true→listed.getD e.on false=true):
 (∀n∈p.ts,ST SN pl pl.length (aJ pl listed) (aB n)=get (aB n) (SN k))∧
 (∀i id rd wr lc,Sp k= .pl id rd wr lc→i∈rd→SH Sr Sp pl.length (aJ pl listed) i=get i (Sr k)∨∃o n,lc=some (i,o,n)∧cl o n (SH Sr Sp pl.length (aJ pl listed) i)=cl o n (get i (Sr k)))∧
 (∀b kk id h0 h1,Sp k= .cl id h0 h1→h0=Sr k→get b (Sr k)=some kk→SH Sr Sp pl.length (aJ pl listed) b=some kk)∧
 (∀b i,k<i→i<pl.length→aJ pl listed i=true→¬(CB (Sp i) b∧CB (Sp k) b))∧
 (∀t i,k<i→i<pl.length→aJ pl listed i=true→¬(Bw pl i t∧Bw pl k t)):=by
 have hkN:k<pl.length:=(List.getElem?_eq_some_iff.1 hk).1
 have hXk:aJ pl listed k=false:=by simp only[aJ,hk];exact hun
 have at':∀i,i<pl.length→∃q,pl[i]? =some q:=fun i hi=>⟨pl[i],by simp[hi]⟩
 have dn:∀i q,pl[i]? =some q→aJ pl listed i=listed.getD q.i false:=fun i q hq=>by simp only[aJ,hq]
 have early:∀i q,i<k→pl[i]? =some q→aJ pl listed i=false→p.m.testBit q.i=false:=by
  intro i q hik hq hx
  cases hm:p.m.testBit q.i with
  |false=>rfl
  |
   true=>
   rw[dn i q hq] at hx
   rw[(h.pT.at_ k p hk).2.1] at hm
   have:=xJ hcl ho hpre (fun e=>by have:=h.pT.inj i k q p hq hk e;omega) hm
   rw[this] at hx;cases hx
 have late:∀i j q r,pl[i]? =some q→pl[j]? =some r→aJ pl listed i=true→aJ pl listed j=false→q.m.testBit r.i=false:=by
  intro i j q r hq hr hx hy
  cases hm:q.m.testBit r.i with
  |false=>rfl
  |
   true=>
   rw[dn i q hq] at hx
   rw[dn j r hr] at hy
   rw[(h.pT.at_ i q hq).2.1] at hm
   have:=vI hcl hx hm
   rw[this] at hy;cases hy
 have indE:∀i,i<k→aJ pl listed i=false→indep (Sp i) (Sp k)=true:=by
  intro i hi hx
  obtain⟨q,hq⟩:=at' i (by omega)
  rcases h.ind k p hk i hi with h1|h1
  ·rw[h.ri i q hq,early i q hi hq hx] at h1;cases h1
  ·exact h1
 have indL:∀i j,j<i→i<pl.length→aJ pl listed i=true→aJ pl listed j=false→indep (Sp j) (Sp i)=true:=by
  intro i j hji hi hx hy
  obtain⟨q,hq⟩:=at' i hi
  obtain⟨r,hr⟩:=at' j (by omega)
  rcases h.ind i q hq j hji with h1|h1
  ·rw[h.ri j r hr,late i j q r hq hr hx hy] at h1;cases h1
  ·exact h1
 have sepE:∀i q,i<k→pl[i]? =some q→aJ pl listed i=false→jK q p=true:=by
  intro i q hi hq hx
  rcases h.pT.sep i k q p hi hq hk with h1|h1
  ·rw[early i q hi hq hx] at h1;cases h1
  ·exact h1
 have sepL:∀i j q r,j<i→pl[i]? =some q→pl[j]? =some r→aJ pl listed i=true→aJ pl listed j=false→jK r q=true:=by
  intro i j q r hji hq hr hx hy
  rcases h.pT.sep j i r q hji hr hq with h1|h1
  ·rw[late i j q r hq hr hx hy] at h1;cases h1
  ·exact h1
 have a3:∀b i j,j<i→i<pl.length→aJ pl listed i=true→aJ pl listed j=false→¬(CB (Sp i) b∧CB (Sp j) b):=
  fun b i j hji hi hx hy hh=>DZ (indL i j hji hi hx hy) b ⟨hh.2,hh.1⟩
 have t3:∀t i j,j<i→i<pl.length→aJ pl listed i=true→aJ pl listed j=false→¬(Bw pl i t∧Bw pl j t):=by
  rintro t i j hji hi hx hy ⟨⟨q,hq,d,hd,he⟩,⟨r,hr,d',hd',he'⟩⟩
  have hdd:d=d':=by rw[←cB d,←cB d',←he,←he']
  subst hdd
  exact(nE (sepL i j q r hji hq hr hx hy)).2.2 d hd' hd
 refine⟨?_,?_,?_,fun b i h1 h2 h3=>a3 b i k h1 h2 h3 hXk,fun t i h1 h2 h3=>t3 t i k h1 h2 h3 hXk⟩
 ·intro n hn
  refine pn (fun x=>x) hXk hkN (fun i hi hc=>h.tC hi hc) ?_ ?_ (fun i j hji hi hx hy=>t3 _ i j hji hi hx hy)
  ·intro i hi hx
   refine h.tC (by omega) ?_
   rintro⟨q,hq,d,hd,he⟩
   have:n=d:=by rw[←cB n,←cB d,he]
   subst this
   exact(nE (sepE i q hi hq hx)).1 n hd hn
  ·intro i hki hi hx
   refine h.tC hi ?_
   rintro⟨q,hq,d,hd,he⟩
   have:n=d:=by rw[←cB n,←cB d,he]
   subst this
   exact(nE (sepL i k q p hki hq hk hx hXk)).2.1 n hd hn
 ·intro c id rd wr lc hrc hcr
  have one:∀i,i<pl.length→indep (Sp i) (Sp k)=true→get c (Sr i)=get c (Sr (i+1))∨∃o n,lc=some (c,o,n)∧cl o n (get c (Sr i))=cl o n (get c (Sr (i+1))):=by
   intro i hi SJ
   obtain⟨q,hq⟩:=at' i hi
   have hat:=h.at_ i q hq
   rw[hrc] at SJ
   cases hri:Sp i with
   |
    pl id' rd' wr' lc'=>
    rw[hri] at SJ hat
    exact Or.inl (hat.cb (b:=c) (Bv SJ hcr))
   |
    cl id' h0 h1=>
    rw[hri] at SJ hat
    obtain⟨_,wt,_,⟨_,_,_,_,e⟩|⟨_,SR,v,_,_,⟨ids,lc',e',e,_⟩|⟨e,_⟩⟩⟩:=hat
    ·cases e
    ·cases e
    ·cases e;exact D0 SJ hcr
  have stepE:∀i,i<k→aJ pl listed i=false→indep (Sp i) (Sp k)=true:=indE
  have stepL:∀i,k<i→i<pl.length→aJ pl listed i=true→indep (Sp i) (Sp k)=true:=fun i hki hi hx=>pS (indL i k hki hi hx hXk)
  by_cases hl:∃o n,lc=some (c,o,n)
  ·obtain⟨o,n,hl⟩:=hl
   refine Or.inr ⟨o,n,hl,?_⟩
   have pi:∀i,i<pl.length→indep (Sp i) (Sp k)=true→cl o n (get c (Sr i))=cl o n (get c (Sr (i+1))):=by
    intro i hi SJ
    rcases one i hi SJ with e|⟨o',n',e1,e2⟩
    ·rw[e]
    ·rw[hl] at e1;cases e1;exact e2
   exact pn (cl o n) hXk hkN (fun i hi hc=>h.hC hi hc) (fun i hi hx=>pi i (by omega) (stepE i hi hx)) (fun i hki hi hx=>pi i hi (stepL i hki hi hx)) (fun i j hji hi hx hy=>a3 _ i j hji hi hx hy)
  ·refine Or.inl ?_
   have pi:∀i,i<pl.length→indep (Sp i) (Sp k)=true→get c (Sr i)=get c (Sr (i+1)):=by
    intro i hi SJ
    rcases one i hi SJ with e|⟨o',n',e1,e2⟩
    ·exact e
    ·exact absurd ⟨o',n',e1⟩ hl
   exact pn (fun x=>x) hXk hkN (fun i hi hc=>h.hC hi hc) (fun i hi hx=>pi i (by omega) (stepE i hi hx)) (fun i hki hi hx=>pi i hi (stepL i hki hi hx)) (fun i j hji hi hx hy=>a3 _ i j hji hi hx hy)
 ·intro b kk id h0 h1 hrc hh0 hb
  subst hh0
  have pi:∀i,i<pl.length→indep (Sp i) (Sp k)=true→get b (Sr i)=get b (Sr (i+1)):=by
   intro i hi SJ
   rw[hrc] at SJ
   refine h.hC hi ?_
   cases hri:Sp i with
   |pl id' rd' wr' lc'=>rw[hri] at SJ;exact As SJ hb
   |cl id' h0 h1=>rw[hri] at SJ;cases SJ
  rw[←hb]
  exact pn (fun x=>x) hXk hkN (fun i hi hc=>h.hC hi hc) (fun i hi hx=>pi i (by omega) (indE i hi hx)) (fun i hki hi hx=>pi i hi (pS (indL i k hki hi hx hXk))) (fun i j hji hi hx hy=>a3 _ i j hji hi hx hy)
structure Inv(gl:List V)(sz L:Nat)(r:Option Nat)(df:V)(pl:List Pe)(SN:Nat→T V)(Sr:Nat→T aj)(SI:Nat→Id)(Sp:Nat→Rc)(X:Nat→Bool)(E:Env)(a:Act)(w:World):Prop where
 vt:∀t x,ST SN pl pl.length X t=some x→∃u,a.tmps[num t]? =some u∧RV E x u
 vs:sz≤a.tmps.size
 vh:Kn E (SH Sr Sp pl.length X) w
 vg:Kf gl (SH Sr Sp pl.length X) E w
 vf:∀j,j<pl.length→X j=false→bI (num (SI (j+1))) (SI j) E
 vl:bI L (SI pl.length) E
 rf:RF r E df a.defers
theorem mu(h:Tr P gl ops sz pl SN Sr SI Sp):∀{i j:Nat},i≤j→j≤pl.length→num (SI i)≤num (SI j)
 |i,0,h1,_=>by
  have:i=0:=by omega
  subst this;exact Nat.le_refl _
 |
  i,j+1,h1,h2=>by
  by_cases e:i=j+1
  ·subst e;exact Nat.le_refl _
  ·exact Nat.le_trans (mu h (i:=i) (j:=j) (by omega) (by omega)) (h.at_ j pl[j] (by simp)).DT
theorem IJ(
 h:Tr P gl ops sz pl SN Sr SI Sp) {r:Option Nat} {L:Nat} {df:V} {Q:Exit→Act→World→Prop} (_hL:num (SI pl.length)≤L):
 ∀(fuel:Nat)(listed:Array Bool),listed.size=ops.size→Abs.fF listed≤fuel→pU ops listed→
  ∀{E:Env}{a:Act}{w:World},Inv gl sz L r df pl SN Sr SI Sp (aJ pl listed) E a w→
   (∀E' a' w',Ok gl L sz (SN pl.length) (Sr pl.length) (SI pl.length) E' a' w'→RF r E' df a'.defers→Bl (num (SI 0)) (num (SI pl.length)) (SH Sr Sp pl.length (aJ pl listed)) E w (fun b=>get b (Sr pl.length)) E' w'→Q .normal a' w')→
   wpAnyIn (Fr r) 0 P .any ops Q fuel listed a w:=by
 have hpi:∀(j:Nat) p,pl[j]? =some p→ops[p.i]? =some p.o:=fun j p hj=>by simpa using(h.pT.at_ j p hj).1
 have done:∀listed:Array Bool,listed.size=ops.size→Region.ready .any ops listed= []→∀k,k<pl.length→aJ pl listed k=true:=by
  intro listed hs hr
  have key:∀n k,k<n→k<pl.length→aJ pl listed k=true:=by
   intro n
   induction n with
   |zero=>intro k hk;omega
   |
    succ n ih=>
    intro k hk hkN
    have hq:pl[k]? =some pl[k]:=by simp[hkN]
    cases hl:aJ pl listed k with
    |true=>rfl
    |
     false=>
     exfalso
     have ho:=hpi k _ hq
     have Sg:pl[k].i<ops.size:=(Array.getElem?_eq_some_iff.1 ho).1
     have hm:pl[k].i∈Region.ready .any ops listed:=by
      rw[mem_ready]
      refine⟨?_,pl[k].o,ho,?_⟩
      ·simp only[aJ,hq] at hl
       simp[hs▸Sg] at hl ⊢;exact hl
      ·intro e he hb
       have hm:=sf ops.toList [] pl[k].i pl[k].o (by simpa using ho) e (by simpa using he) hb
       simp only[List.length_nil,Nat.zero_add] at hm
       rw[←(h.pT.at_ k _ hq).2.1] at hm
       obtain⟨j',p',q1,q2,q3⟩:=h.pT.ext k _ hq _ hm
       have:=ih j' (by omega) (by omega)
       simp only[aJ,q2] at this
       rw[←q3];exact this
     rw[hr] at hm;cases hm
  exact fun k hk=>key (k+1) k (by omega) hk
 have fin:∀(listed:Array Bool){E:Env}{a:Act}{w:World},(∀k,k<pl.length→aJ pl listed k=true)→Inv gl sz L r df pl SN Sr SI Sp (aJ pl listed) E a w→
  (∀E' a' w',Ok gl L sz (SN pl.length) (Sr pl.length) (SI pl.length) E' a' w'→RF r E' df a'.defers→Bl (num (SI 0)) (num (SI pl.length)) (SH Sr Sp pl.length (aJ pl listed)) E w (fun b=>get b (Sr pl.length)) E' w'→Q .normal a' w')→Q .normal a w:=by
  intro listed E a w hd hi hq
  have e1:SH Sr Sp pl.length (aJ pl listed)=fun b=>get b (Sr pl.length):=by
   funext b
   exact xH hd (fun i hi hc=>h.hC hi hc)
  have e2:∀t,ST SN pl pl.length (aJ pl listed) t=get t (SN pl.length):=fun t=>xH hd (fun i hi hc=>h.tC hi hc)
  have hi':=hi
  rw[e1] at hq
  refine hq E a w ⟨?_,hi.vs,?_,hi.vl,?_⟩ hi.rf ⟨rfl,Tp.r rfl rfl,rfl,Nat.le_refl _,fun _ _ _=>rfl,fun _ h=>Or.inl h,fun _ _=>⟨rfl,rfl⟩⟩
  ·intro t x hx
   exact hi.vt t x (by rw[e2];exact hx)
  ·have:=hi.vh
   rw[e1] at this
   exact this.to (fun _ _ h=>h)
  ·have:=hi.vg
   rw[e1] at this
   exact this.to (fun _ _ h=>h)
 intro fuel
 induction fuel with
 |
  zero=>
  intro listed hs hu hcl E a w hi hq
  have hall:∀k,k<ops.size→listed.getD k false=true:=fun k hk=>Abs.lJ (by omega) (by omega)
  have hr:Region.ready .any ops listed= []:=by
   rw[List.eq_nil_iff_forall_not_mem]
   intro k hk
   rw[mem_ready] at hk
   obtain⟨h1,o,h2,_⟩:=hk
   have Sg:k<ops.size:=(Array.getElem?_eq_some_iff.1 h2).1
   have:=hall k Sg
   simp[hs▸Sg] at h1 this
   rw[this] at h1;cases h1
  exact⟨hr,fin listed (done listed hs hr) hi hq⟩
 |
  succ fuel ih=>
  intro listed hs hu hcl E a w hi hq
  refine⟨fun hr=>fin listed (done listed hs hr) hi hq,fun i hir=>?_⟩
  rw[mem_ready] at hir
  obtain⟨h1,o,h2,h3⟩:=hir
  have Sg:i<ops.size:=(Array.getElem?_eq_some_iff.1 h2).1
  have hif:listed.getD i false=false:=by simp[hs▸Sg] at h1 ⊢;exact h1
  obtain⟨k,p,hk,hpk⟩:=h.pT.Ol i (by simpa using Sg)
  subst hpk
  have hoo:o=p.o:=by have:=hpi k p hk;rw[h2] at this;cases this;rfl
  subst hoo
  have hkN:k<pl.length:=(List.getElem?_eq_some_iff.1 hk).1
  have hpre:∀e∈p.o.after.toList,Region.binds .any e=true→listed.getD e.on false=true:=fun e he hb=>h3 e (by simpa using he) hb
  obtain⟨f1,f2,f3,f4,f5⟩:=vJ h hcl hk h2 hif hpre
  have hXk:aJ pl listed k=false:=by simp only[aJ,hk];exact hif
  have hcl':pU ops (listed.setIfInBounds p.i true):=by
   intro j o' ho' hj e he hb
   by_cases e':j=p.i
   ·subst e'
    rw[h2] at ho';cases ho'
    exact getD_set_true (hpre e he hb)
   ·rw[getD_set_ne false (fun h=>e' h.symm)] at hj
    exact getD_set_true (hcl j o' ho' hj e he hb)
  have hX':aJ pl (listed.setIfInBounds p.i true)=fun x=>aJ pl listed x||x==k:=by
   funext x
   unfold aJ
   cases hx:pl[x]? with
   |
    none=>
    have:x≠k:=fun e=>by subst e;rw[hk] at hx;cases hx
    simp[this]
   |
    some q=>
    simp only
    by_cases e:x=k
    ·subst e
     rw[hk] at hx;cases hx
     simp[hs,Sg]
    ·have R7:q.i≠p.i:=fun e'=>e (h.pT.inj x k q p hx hk e')
     rw[getD_set_ne false (fun h=>R7 h.symm)]
     simp[e]
  have hSH:∀b,(SH Sr Sp pl.length (aJ pl (listed.setIfInBounds p.i true)) b=get b (Sr (k+1))∧CB (Sp k) b)∨(SH Sr Sp pl.length (aJ pl (listed.setIfInBounds p.i true)) b=SH Sr Sp pl.length (aJ pl listed) b∧¬CB (Sp k) b):=by
   intro b
   have:=pO (C:=fun j=>CB (Sp j) b) (g:=fun j=>get b (Sr j)) hXk hkN (fun i h1 h2 h3=>f4 b i h1 h2 h3)
   unfold SH
   rw[hX',this]
   by_cases hc:CB (Sp k) b
   ·exact Or.inl ⟨by rw[if_pos hc],hc⟩
   ·exact Or.inr ⟨by rw[if_neg hc],hc⟩
  have hST:∀t,(ST SN pl pl.length (aJ pl (listed.setIfInBounds p.i true)) t=get t (SN (k+1))∧Bw pl k t)∨(ST SN pl pl.length (aJ pl (listed.setIfInBounds p.i true)) t=ST SN pl pl.length (aJ pl listed) t∧¬Bw pl k t):=by
   intro t
   have:=pO (C:=fun j=>Bw pl j t) (g:=fun j=>get t (SN j)) hXk hkN (fun i h1 h2 h3=>f5 t i h1 h2 h3)
   unfold ST
   rw[hX',this]
   by_cases hc:Bw pl k t
   ·exact Or.inl ⟨by rw[if_pos hc],hc⟩
   ·exact Or.inr ⟨by rw[if_neg hc],hc⟩
  obtain⟨hd,wt,hw,hcase⟩:=h.at_ k p hk
  have hpt:=(h.pT.at_ k p hk).2.2
  have part:∀m:T V,(∀t x,get t m=some x→(∃n∈p.ts,t=aB n)∧get t (SN k)=some x)→RT E m a.tmps:=by
   intro m hm t x hx
   obtain⟨⟨n,n1,rfl⟩,q⟩:=hm t x hx
   exact hi.vt _ x (by rw[f1 n n1];exact q)
  have hwt:Region.wanted p.o (yielded ops a.tmps)=wt:=by
   obtain⟨m,m1,m2⟩:=Aq hw (MW p.o)
   refine uK (part m (fun t x hx=>?_)) m2
   rw[hpt];exact m1 t x hx
  have hput:∀(u:Value) t,¬Bw pl k t→(a.put p.o.dst u).tmps[num t]? =a.tmps[num t]? :=by
   intro u t ht
   cases hds:p.o.dst with
   |none=>rfl
   |
    some d=>
    have:num t≠d:=fun e=>ht ⟨p,hk,d,hds,by rw[←e,Dj]⟩
    show(a.tmps.setIfInBounds d u)[num t]? =_
    rw[Array.getElem?_setIfInBounds,if_neg (fun e=>this e.symm)]
  have hmono:∀i j,i≤j→j≤pl.length→num (SI i)≤num (SI j):=fun i j=>mu h
  unfold wpOpIn
  simp only[h2]
  rcases hcase with⟨rfl,c1,c2,c3,c4⟩|⟨rfl,SR,v,c1,c2,c3⟩
  ·
   simp only[hwt,Bool.false_eq_true,if_false]
   refine⟨fun _ _=>trivial,?_⟩
   have hSeq:SH Sr Sp pl.length (aJ pl (listed.setIfInBounds p.i true))=SH Sr Sp pl.length (aJ pl listed):=by
    funext b
    rcases hSH b with⟨_,hc⟩|⟨e,_⟩
    ·rw[c4] at hc;cases hc
    ·exact e
   refine ih _ (by simp[hs]) (by have:=Abs.j0 h1;omega) hcl' (E:=E) ⟨?_,by rw[gC];exact hi.vs,by rw[hSeq];exact hi.vh,by rw[hSeq];exact hi.vg,?_,hi.vl,by rw[put_defers];exact hi.rf⟩ (by rw[hSeq];exact hq)
   ·intro t x hx
    rcases hST t with⟨e,q,hq',d,hd',he⟩|⟨e,hc⟩
    ·rw[hk] at hq';cases hq'
     rw[e,c1,hd',he] at hx
     rw[show get (aB d) (Bh (some d) none (SN k))=none from bA _ _ _] at hx
     cases hx
    ·rw[e] at hx
     obtain⟨u,u1,u2⟩:=hi.vt t x hx
     exact⟨u,by rw[hput undef t hc];exact u1,u2⟩
   ·intro j hj hx
    rw[hX'] at hx
    simp only[Bool.or_eq_false_iff] at hx
    exact hi.vf j hj hx.1
  ·simp only[hwt,if_true]
   have core:∀(h0 h1:T aj),(∀b kk,get b h0=some kk→SH Sr Sp pl.length (aJ pl listed) b=some kk)→lk P gl p.o SR h0 (SI k) v h1 (SI (k+1))→
    (DY h0 h1 (SH Sr Sp pl.length (aJ pl listed))=SH Sr Sp pl.length (aJ pl (listed.setIfInBounds p.i true)))→
    p.o.wpIn (Fr r) 0 P a w (wpAnyIn (Fr r) 0 P .any ops Q fuel (listed.setIfInBounds p.i true)) Q:=by
    intro h0 h1' Sl hst hmrg
    have hF:=hi.vf k hkN hXk
    refine hst.2 r (num (SI (k+1))) E a w (Nat.le_refl _) (part SR c1) (hi.vh.to Sl) hF (hi.vg.to Sl) _ Q ?_
    intro E' u w' q1 q2 q3 q4
    obtain⟨m1,m2⟩:=xG Sl hi.vh hF q2 q4
    rw[hmrg] at m1 m2
    have hle:E.le E':=q4.le hF (Nat.le_refl _)
    have hx0:num (SI 0)≤num (SI k):=hmono 0 k (by omega) (by omega)
    have hx1:num (SI (k+1))≤num (SI pl.length):=hmono (k+1) pl.length (by omega) (Nat.le_refl _)
    refine ih _ (by simp[hs]) (by have:=Abs.j0 h1;omega) hcl' (E:=E') ⟨?_,by rw[gC];exact hi.vs,m1,hi.vg.step m2,?_,?_,by rw[put_defers];exact hi.rf.mono hle⟩ (fun E2 a2 w2 k1 k2 k3=>hq E2 a2 w2 k1 k2 ((m2.wide hx0 hx1).trans k3))
    ·intro t x hx
     rcases hST t with⟨e,q,hq',d,hd',he⟩|⟨e,hc⟩
     ·rw[hk] at hq';cases hq'
      rw[e,c2,hd',he] at hx
      rw[show get (aB d) (Bh (some d) (some v) (SN k))=some v from bA _ _ _] at hx
      cases hx
      refine⟨u,?_,q1⟩
      rw[he,cB,hd']
      show(a.tmps.setIfInBounds d u)[d]? =_
      rw[Array.getElem?_setIfInBounds,if_pos rfl,if_pos (uJ hd hi.vs d hd')]
     ·rw[e] at hx
      obtain⟨u',u1,u2⟩:=hi.vt t x hx
      exact⟨u',by rw[hput u t hc];exact u1,u2.mono hle⟩
    ·intro j hj hx
     rw[hX'] at hx
     simp only[Bool.or_eq_false_iff,beq_eq_false_iff_ne] at hx
     intro b b1 b2
     have hdis:num b<num (SI k)∨num (SI (k+1))≤num b:=by
      rcases Nat.lt_or_gt_of_ne hx.2 with hjk|hjk
      ·have:=hmono (j+1) k (by omega) (by omega);omega
      ·have:=hmono (k+1) j (by omega) (by omega);omega
     rw[(q4.env b hdis).1]
     exact hi.vf j hj hx.1 b b1 b2
    ·intro b b1 b2
     rw[(q4.env b (by omega)).1]
     exact hi.vl b b1 b2
   rcases c3 with⟨ids,lc,e,r1,r2,r3,r4,r5,r6⟩|⟨r1,r6⟩
   ·subst r2
    have hS:=r6 (SH Sr Sp pl.length (aJ pl listed)) (fun c hc=>f2 c _ _ _ _ r1 hc)
    rw[←r4] at hS
    refine core _ _ ?_ hS ?_
    ·intro b kk hb
     rw[iV] at hb
     split at hb
     ·exact hb
     ·cases hb
    ·funext b
     have g0:get b (dA (SH Sr Sp pl.length (aJ pl listed)) ids)=if b∈ids then SH Sr Sp pl.length (aJ pl listed) b else none:=iV
     rcases hSH b with⟨e1,hc⟩|⟨e1,hc⟩
     ·rw[r1] at hc
      have hc:b∈fR e (SI k):=hc
      rw[e1,r3,Bu hc (Sr k) (dA (SH Sr Sp pl.length (aJ pl listed)) ids)]
      unfold DY
      split
      ·rename_i heq
       rcases Bt r5 b hc with hb|⟨hb,hk'⟩
       ·rw[g0,if_pos hb] at heq;exact heq
       ·by_cases hbi:b∈ids
        ·rw[g0,if_pos hbi] at heq;exact heq
        ·rw[g0,if_neg hbi] at heq
         obtain⟨kk,hkk⟩:=hk' (dA (SH Sr Sp pl.length (aJ pl listed)) ids)
         rw[hkk] at heq;cases heq
      ·rfl
     ·rw[r1] at hc
      have hc:b∉fR e (SI k):=hc
      rw[e1]
      unfold DY
      rw[if_pos (sj hc _).symm]
   ·refine core (Sr k) (Sr (k+1)) (fun b kk hb=>f3 b kk _ _ _ r1 rfl hb) r6 ?_
    funext b
    rcases hSH b with⟨e1,hc⟩|⟨e1,hc⟩
    ·rw[r1] at hc
     rw[e1]
     unfold DY
     rw[if_neg hc]
    ·rw[r1] at hc
     rw[e1]
     unfold DY
     rw[if_pos (Classical.not_not.1 hc)]
end
section
variable{P:Program} {gl:List V} {ih:dc} {hf:Hk}
theorem D1(hI:rW P gl ih)(hG:vB P gl hf)(hm:P.follows .mixedOrders=true){id:Nat}{ops:Array Oper}{sz:Nat}{tm:T V}{hp:T aj}{nx:Id}{df:V}{x:Xt}{Sf:T V}{R0:T aj}{RY:Id}{Si:V}
 (h:(bO (yj ops.toList) fun pl=>mH P gl hf ih sz ops.toList pl [] tm hp nx df)=some (.mk x Sf R0 RY Si)):ep P gl (.region id ops true) sz tm hp nx df x Sf R0 RY Si:=by
 obtain⟨pl,hpl,h1⟩:=aa h
 obtain⟨e1,e2,SN,Sr,SI,Sp,a1,a2,a3,a4,a5,a6,a7⟩:=pR hI hG h1
 subst e1;subst e2;subst a1;subst a2;subst a3;subst a4;subst a5;subst a6
 have tr:Tr P gl ops sz pl SN Sr SI Sp:=⟨Ap hpl,fun j p hj=>(a7 j p hj).1,fun j p hj=>(a7 j p hj).2.1,fun j p hj=>(a7 j p hj).2.2.2⟩
 have hnn:=mu tr (Nat.zero_le pl.length) (Nat.le_refl _)
 refine⟨hnn,?_⟩
 intro r L E a w hL R9 SF Q hQ
 refine wpIn_region_any hm ?_
 have hX:∀i,i<pl.length→aJ pl (Array.replicate ops.size false) i=false:=by
  intro i hi
  unfold aJ
  cases pl[i]? with
  |none=>rfl
  |some p=>rcases Nat.lt_or_ge p.i ops.size with h|h<;>simp[h]
 have e1:SH Sr Sp pl.length (aJ pl (Array.replicate ops.size false))=fun b=>get b (Sr 0):=by
  funext b
  exact tO hX
 have e2:∀t,ST SN pl pl.length (aJ pl (Array.replicate ops.size false)) t=get t (SN 0):=fun t=>tO hX
 have mono:∀i j,i≤j→j≤pl.length→num (SI i)≤num (SI j):=fun i j=>mu tr
 refine IJ tr (L:=L) (df:=Si) hL ops.size _ (by simp) ?_ ?_ (E:=E) ⟨?_,R9.vs,?_,?_,?_,?_,SF⟩ ?_
 ·unfold Abs.fF;simp
 ·intro j o ho hj
  have:(Array.replicate ops.size false).getD j false=false:=by
   rcases Nat.lt_or_ge j ops.size with h|h<;>simp[h]
  rw[this] at hj;cases hj
 ·intro t x hx
  rw[e2] at hx
  exact R9.vt t x hx
 ·rw[e1]
  exact⟨fun b k hb=>R9.vh.bh b k hb,fun b b' k k' g h1 h2=>R9.vh.sep b b' k k' g h1 h2⟩
 ·rw[e1]
  exact fun g x hx=>R9.vg g x hx
 ·intro j hj _ b b1 b2
  have:=mono 0 j (by omega) (by omega)
  have:=mono (j+1) pl.length (by omega) (Nat.le_refl _)
  exact R9.vf b (by omega) (by omega)
 ·intro b b1 b2
  exact R9.vf b (by omega) b2
 ·rw[e1]
  intro E' a' w' k1 k2 k3
  refine hQ E' a' w' k1 k2 ⟨k3.os,k3.tape,k3.output,k3.size,fun g hg ho=>k3.kept g hg ho,fun g hg=>k3.own g hg,hnn,k3.env⟩
end
end Go.Cm
namespace Go.Cm
def xK(P:Program)(gl:List V)(c:Code)(sz:Nat)(tm:T V)(hp:T aj)(nx:Id)(df:V)(x:Xt)(Sf:T V)(R0:T aj)(RY:Id)(Si:V):Prop:=
 num nx≤num RY∧∃m,∀(r:Option Nat)(L:Nat)(E:Env)(a:Act)(w:World),num RY≤L→Ok gl L sz tm hp nx E a w→RF r E df a.defers→∀Q:Exit→Act→World→Prop,
  (∀E' a' w',Ok gl L sz Sf R0 RY E' a' w'→RF r E' Si a'.defers→Ex hp nx E w R0 RY E' w'→Q (qR x) a' w')→Code.roundsIn (Fr r) 0 P c Q m a w
def D2(P:Program)(gl:List V)(ex:dc):Prop:=
 ∀c SM sz tm hp nx df x Sf R0 RY Si,ex (.loop c) SM sz tm hp nx df=some (.mk x Sf R0 RY Si)→xK P gl c sz tm hp nx df x Sf R0 RY Si
section
variable{P:Program} {b:Frame} {a:Act} {k:List Item} {cs:List Frame} {w:World}
theorem eO{c:Code}:step P (lone (b.atR a (.code (.scope c)::k)) cs w)= .next (lone (b.atR a (.code c::.inScope c::k)) cs w):=
 step_lone_go (by simp[stepG,stepG.exec,Frame.atR])
theorem rN{c:Code}:step P (lone (b.atR a (.inScope c::k)) cs w)= .next (lone (b.atR a k) cs w):=
 step_lone_go (by simp[stepG,stepG.exec,Frame.atR])
def noGoto(Q:Exit→Act→World→Prop):Exit→Act→World→Prop
 | .goto _,_,_=>False
 |e,a,w=>Q e a w
theorem xL{F:Fence}{n:Nat}{Q:Exit→Act→World→Prop}{c:Code}(h:c.wpIn F n P (noGoto Q) a w):(Code.scope c).wpIn F n P Q a w:=by
 intro b k cs hro hb hr
 have h0:(lone (b.atR a (.code (.scope c)::k)) cs w).fenced P F:=fenced_calm hb hr rfl
 obtain⟨e,a₁,w₁,hq,SA⟩:=h b (.inScope c::k) cs hro hb hr
 cases e with
 |normal=>exact⟨.normal,a₁,w₁,hq,.head h0 eO (StepsIn.trans SA (.one (fenced_calm hb hr rfl) rN))⟩
 |
  exit id=>
  have hx:exitTo id (.inScope c::k)=exitTo id k:=by simp[exitTo]
  exact⟨.exit id,a₁,w₁,hq,fun k' hk=>.head h0 eO (SA.1 k' (by rw[hx];exact hk)),
   fun hr' hk=>let⟨k₁,h1,h2⟩:=SA.2 hr' (by rw[hx];exact hk);⟨k₁,h1,.head h0 eO h2⟩⟩
 |goto l=>exact hq.elim
 |ret=>exact⟨_,a₁,w₁,hq,.of_steps (.one h0 eO) SA⟩
 |panic ch=>exact⟨_,a₁,w₁,hq,.of_steps (.one h0 eO) SA⟩
 |outgrown=>exact⟨_,a₁,w₁,hq,.of_steps (.one h0 eO) SA⟩
end
section
variable{P:Program} {gl:List V} {hf:Hk}
theorem yS{ih:dc}(hI:rW P gl ih)(hL:D2 P gl ih){c:Code}{SM sz:Nat}{tm:T V}{hp:T aj}{nx:Id}{df:V}{x:Xt}{Sf:T V}{R0:T aj}{RY:Id}{Si:V}
 (h:Ir ih c SM sz tm hp nx df=some (.mk x Sf R0 RY Si)):xK P gl c sz tm hp nx df x Sf R0 RY Si:=by
 obtain⟨x1,j8,cX,ei,df1,h1,h2⟩:=fw h
 obtain⟨s1,s2⟩:=hI _ _ _ _ _ _ _ _ _ _ _ _ h1
 have out:qR x1≠.normal→some (Rs.mk x1 j8 cX ei df1)=some (.mk x Sf R0 RY Si)→xK P gl c sz tm hp nx df x Sf R0 RY Si:=by
  intro R7 e
  cases e
  refine⟨s1,1,?_⟩
  intro r L E a w hL R9 SF Q hQ
  show c.wpIn (Fr r) 0 P (Exit.then _ Q) a w
  refine s2 r L E a w hL R9 SF _ ?_
  intro E' a' w' k1 k2 k3
  have:=hQ E' a' w' k1 k2 k3
  cases x<;>first|exact absurd rfl R7|exact this
 cases x1 with
 |
  gH=>
  obtain⟨t1,m,t2⟩:=hL _ _ _ _ _ _ _ _ _ _ _ _ (show ih (.loop c) SM sz j8 cX ei df1=some (.mk x Sf R0 RY Si) from h2)
  refine⟨Nat.le_trans s1 t1,m+1,?_⟩
  intro r L E a w hLe R9 SF Q hQ
  rw[roundsIn_succ]
  refine s2 r L E a w (Nat.le_trans t1 hLe) R9 SF _ ?_
  intro E' a' w' k1 k2 k3
  exact t2 r L E' a' w' hLe k1 k2 Q (fun E2 a2 w2 q1 q2 q3=>hQ E2 a2 w2 q1 q2 (k3.trans q3))
 |ext i=>exact out (by simp[qR]) h2
 |ret=>exact out (by simp[qR]) h2
theorem IK{ih:dc}(hI:rW P gl ih){c d:Code}{SM sz:Nat}{tm:T V}{hp:T aj}{nx:Id}{df:V}{x:Xt}{Sf:T V}{R0:T aj}{RY:Id}{Si:V}
 (h:M5 ih c d SM sz tm hp nx df=some (.mk x Sf R0 RY Si)):ep P gl (.seq c d) sz tm hp nx df x Sf R0 RY Si:=by
 obtain⟨x1,j8,cX,ei,df1,h1,h2⟩:=fw h
 obtain⟨s1,s2⟩:=hI _ _ _ _ _ _ _ _ _ _ _ _ h1
 have out:qR x1≠.normal→some (Rs.mk x1 j8 cX ei df1)=some (.mk x Sf R0 RY Si)→ep P gl (.seq c d) sz tm hp nx df x Sf R0 RY Si:=by
  intro R7 e
  cases e
  refine⟨s1,?_⟩
  intro r L E a w hL R9 SF Q hQ
  refine wpIn_seq (s2 r L E a w hL R9 SF _ ?_)
  intro E' a' w' k1 k2 k3
  have:=hQ E' a' w' k1 k2 k3
  cases x<;>first|exact absurd rfl R7|exact this
 cases x1 with
 |
  gH=>
  obtain⟨t1,t2⟩:=hI _ _ _ _ _ _ _ _ _ _ _ _ (show ih d SM sz j8 cX ei df1=some (.mk x Sf R0 RY Si) from h2)
  refine⟨Nat.le_trans s1 t1,?_⟩
  intro r L E a w hLe R9 SF Q hQ
  refine wpIn_seq (s2 r L E a w (Nat.le_trans t1 hLe) R9 SF _ ?_)
  intro E' a' w' k1 k2 k3
  exact t2 r L E' a' w' hLe k1 k2 Q (fun E2 a2 w2 q1 q2 q3=>hQ E2 a2 w2 q1 q2 (k3.trans q3))
 |ext i=>exact out (by simp[qR]) h2
 |ret=>exact out (by simp[qR]) h2
theorem D3{ih:dc}(hI:rW P gl ih){o:Operand}{c d:Code}{SM sz:Nat}{tm:T V}{hp:T aj}{nx:Id}{df:V}{x:Xt}{Sf:T V}{R0:T aj}{RY:Id}{Si:V}
 (h:Iq ih o c d SM sz tm hp nx df=some (.mk x Sf R0 RY Si)):ep P gl (.cond o c d) sz tm hp nx df x Sf R0 RY Si:=by
 obtain⟨v,hv,h1⟩:=aa h
 obtain⟨t,rfl,h2⟩:=cT h1
 have core:∀e:Code,ih e SM sz tm hp nx df=some (.mk x Sf R0 RY Si)→(if t then c else d)=e→ep P gl (.cond o c d) sz tm hp nx df x Sf R0 RY Si:=by
  intro e he hce
  obtain⟨s1,s2⟩:=hI _ _ _ _ _ _ _ _ _ _ _ _ he
  refine⟨s1,?_⟩
  intro r L E a w hL R9 SF Q hQ
  have hc:=aK R9.vt hv
  simp only[RV] at hc
  refine wpIn_cond hc ?_
  rw[hce]
  exact s2 r L E a w hL R9 SF Q hQ
 cases t with
 |true=>exact core c h2 rfl
 |false=>exact core d h2 rfl
theorem Bx{ih:dc}(hI:rW P gl ih){id:Nat}{c:Code}{SM sz:Nat}{tm:T V}{hp:T aj}{nx:Id}{df:V}{x:Xt}{Sf:T V}{R0:T aj}{RY:Id}{Si:V}
 (h:CK ih id c SM sz tm hp nx df=some (.mk x Sf R0 RY Si)):ep P gl (.block id c) sz tm hp nx df x Sf R0 RY Si:=by
 obtain⟨x1,j8,cX,ei,df1,h1,h2⟩:=fw h
 obtain⟨s1,s2⟩:=hI _ _ _ _ _ _ _ _ _ _ _ _ h1
 have core:∀y:Xt,some (Rs.mk y j8 cX ei df1)=some (.mk x Sf R0 RY Si)→(∀(Q:Exit→Act→World→Prop) a w,Q (qR y) a w→Exit.inBlock id Q (qR x1) a w)→ep P gl (.block id c) sz tm hp nx df x Sf R0 RY Si:=by
  intro y e hy
  cases e
  refine⟨s1,?_⟩
  intro r L E a w hL R9 SF Q hQ
  refine wpIn_block (s2 r L E a w hL R9 SF _ ?_)
  intro E' a' w' k1 k2 k3
  exact hy Q a' w' (hQ E' a' w' k1 k2 k3)
 cases x1 with
 |gH=>exact core .gH h2 (fun Q a w h=>h)
 |
  ext i=>
  have h3:@Bool.rec (fun _=>Option Rs) (some (.mk (.ext i) j8 cX ei df1)) (some (.mk .gH j8 cX ei df1)) (Nat.beq i id)=some (.mk x Sf R0 RY Si):=h2
  cases hb:Nat.beq i id with
  |
   true=>
   rw[hb] at h3
   have:=bg hb;subst this
   exact core .gH h3 (fun Q a w h=>by simp only[qR,Exit.inBlock,if_true];exact h)
  |
   false=>
   rw[hb] at h3
   have R7:i≠id:=fun e=>by subst e;rw[Nat.beq_refl] at hb;cases hb
   exact core (.ext i) h3 (fun Q a w h=>by simp only[qR,Exit.inBlock,if_neg R7];exact h)
 |ret=>exact core .ret h2 (fun Q a w h=>h)
theorem By{ih:dc}(hI:rW P gl ih)(hL:D2 P gl ih)(hG:vB P gl hf)(hm:P.follows .mixedOrders=true):rW P gl (CL P gl hf ih)∧D2 P gl (CL P gl hf ih):=by
 have gH:∀c:Code,(∀(r:Option Nat) Q a w,Q .normal a w→c.wpIn (Fr r) 0 P Q a w)→∀sz tm hp nx df x Sf R0 RY Si,some (Rs.mk .gH tm hp nx df)=some (.mk x Sf R0 RY Si)→ep P gl c sz tm hp nx df x Sf R0 RY Si:=by
  intro c hc sz tm hp nx df x Sf R0 RY Si e
  cases e
  refine⟨Nat.le_refl _,?_⟩
  intro r L E a w hL R9 SF Q hQ
  exact hc r Q a w (hQ E a w R9 SF (Ex.refl _ _ _ _))
 refine⟨?_,fun c SM sz tm hp nx df x Sf R0 RY Si h=>yS hI hL h⟩
 intro c SM sz tm hp nx df x Sf R0 RY Si h
 cases c with
 |skip=>exact gH _ (fun r Q a w h=>wpIn_skip h) _ _ _ _ _ _ _ _ _ _ h
 |
  region id ops d=>
  cases d with
  |false=>exact JH hI hG h
  |true=>exact D1 hI hG hm h
 |seq c d=>exact IK hI h
 |cond o c d=>exact D3 hI h
 |block id c=>exact Bx hI h
 |
  loop c=>
  obtain⟨s1,m,s2⟩:=yS hI hL h
  refine⟨s1,?_⟩
  intro r L E a w hL R9 SF Q hQ
  exact wpIn_loop_rounds m (s2 r L E a w hL R9 SF Q hQ)
 |rangeFunc f ps Sz body=>exact EZ hI hG h
 |
  exit i=>
  cases(show some (Rs.mk (.ext i) tm hp nx df)=some (.mk x Sf R0 RY Si) from h)
  refine⟨Nat.le_refl _,?_⟩
  intro r L E a w hL R9 SF Q hQ
  exact wpIn_exit (hQ E a w R9 SF (Ex.refl _ _ _ _))
 |
  scope c=>
  obtain⟨s1,s2⟩:=hI _ _ _ _ _ _ _ _ _ _ _ _ (show ih c SM sz tm hp nx df=some (.mk x Sf R0 RY Si) from h)
  refine⟨s1,?_⟩
  intro r L E a w hL R9 SF Q hQ
  refine xL (s2 r L E a w hL R9 SF _ ?_)
  intro E' a' w' k1 k2 k3
  have:=hQ E' a' w' k1 k2 k3
  cases x<;>exact this
 |label l=>exact gH _ (fun r Q a w h=>wpIn_label h) _ _ _ _ _ _ _ _ _ _ h
 |goto l=>cases h
 |
  ret=>
  cases(show some (Rs.mk .ret tm hp nx df)=some (.mk x Sf R0 RY Si) from h)
  refine⟨Nat.le_refl _,?_⟩
  intro r L E a w hL R9 SF Q hQ
  exact wpIn_ret (hQ E a w R9 SF (Ex.refl _ _ _ _))
 |refuse s=>cases h
theorem po(hG:vB P gl hf)(hm:P.follows .mixedOrders=true):∀n,rW P gl (exec P gl hf n)∧D2 P gl (exec P gl hf n)
 |0=>⟨fun c SM sz tm hp nx df x Sf R0 RY Si h=>(by cases h),fun c SM sz tm hp nx df x Sf R0 RY Si h=>(by cases h)⟩
 |n+1=>By (po hG hm n).1 (po hG hm n).2 hG hm
end
end Go.Cm
namespace Go.Cm
noncomputable def D4(x:V):Bool:=
 @V.rec (fun _=>Bool) (fun _=>true) (fun _ _=>true) (fun _=>true) (fun _ _=>false) true (fun _ _ _ _=>false) (fun _ _ _ _=>false) true true (fun _=>false) true (fun _ _ _ a b=>bn a b) (fun _=>false) true (fun _ _ a=>a) true (fun _ a=>a) (fun _ a=>a) false true (fun _ _ a b=>bn a b) x
theorem vK{E E':Env}:∀x:V,D4 x=true→(∀v,RV E x v→RV E' x v)∧(∀vs,aH E x vs→aH E' x vs):=by
 intro x
 induction x with
 |
  fn f fs cs Sn Sk=>
  intro h
  obtain⟨h1,h2⟩:=aI (show bn (D4 fs) (D4 cs)=true from h)
  refine⟨fun v r=>?_,fun vs r=>by simp[aH] at r⟩
  simp only[RV] at r ⊢
  obtain⟨a,c,q1,q2,q3⟩:=r
  exact⟨a,c,q1,(Sn h1).2 _ q2,(Sk h2).2 _ q3⟩
 |
  FG t x ih=>
  intro h
  refine⟨fun v r=>?_,fun vs r=>by simp[aH] at r⟩
  simp only[RV] at r ⊢
  obtain⟨y,q1,q2⟩:=r
  exact⟨y,q1,(ih h).1 _ q2⟩
 |
  agg l ih=>
  intro h
  refine⟨fun v r=>?_,fun vs r=>by simp[aH] at r⟩
  simp only[RV] at r ⊢
  obtain⟨a,q1,q2,q3⟩:=r
  exact⟨a,q1,(ih h).2 _ q2,q3⟩
 |
  bU l ih=>
  intro h
  refine⟨fun v r=>?_,fun vs r=>by simp[aH] at r⟩
  simp only[RV] at r ⊢
  obtain⟨a,q1,q2⟩:=r
  exact⟨a,q1,(ih h).2 _ q2⟩
 |
  cons a l Sn Sk=>
  intro h
  obtain⟨h1,h2⟩:=aI (show bn (D4 a) (D4 l)=true from h)
  refine⟨fun v r=>by simp[RV] at r,fun vs r=>?_⟩
  simp only[aH] at r ⊢
  obtain⟨v,t,q1,q2,q3⟩:=r
  exact⟨v,t,q1,(Sn h1).1 _ q2,(Sk h2).2 _ q3⟩
 |p b o=>intro h;cases h
 |m b=>intro h;cases h
 |yl b=>intro h;cases h
 |sl b o n c=>intro h;cases h
 |su b o n z=>intro h;cases h
 |un=>intro h;cases h
 |nil=>exact fun _=>⟨fun v r=>by simp[RV] at r,fun vs r=>by simpa[aH] using r⟩
 |_=>exact fun _=>⟨fun v r=>by simpa[RV] using r,fun vs r=>by simp[aH] at r⟩
def E0:Env:=⟨fun _=>none,fun _=>0⟩
section
variable{P:Program} {gl:List V}
theorem Ko{E:Env}{w:World}:RH E .e w:=⟨fun b k hb=>(by rw[gM] at hb;cases hb),fun b b' k k' g hb=>(by rw[gM] at hb;cases hb)⟩
theorem Bz{L:Nat}{nx:Id}:bI L nx E0:=fun _ _ _=>rfl
theorem vL{E:Env}{g:Nat}:¬Own .e E g:=fun⟨b,k,hb,_⟩=>by rw[gM] at hb;cases hb
theorem Au{f:FuncId}{x v:V}{R0:T aj}{RY:Id}(h:dz P gl f x .e [] v R0 RY)(hx:D4 x=true)(hv:D4 v=true):∀hp nx,dz P gl f x hp nx v hp nx:=by
 intro hp nx
 obtain⟨h1,h2,h3⟩:=h
 refine⟨h1,Nat.le_refl _,?_⟩
 intro L E w vs _ hv' hH hF hG
 have:=h3 (num RY) E0 w vs (Nat.le_refl _) ((vK x hx).2 vs hv') Ko Bz (fun g y hy=>⟨vL,(hG g y hy).2⟩)
 refine CallsIn.mono (F:=Fence.wide) this ?_
 rintro e w' ⟨u,E',rfl,q1,q2,q3,q4⟩
 refine⟨u,E,rfl,(vK v hv).1 u q1,⟨fun b k hb=>?_,hH.sep⟩,hF,⟨q4.os,q4.tape,q4.output,q4.size,fun g hg _=>q4.kept g hg vL,fun g hg=>Or.inl hg,Nat.le_refl _,fun _ _=>⟨rfl,rfl⟩⟩⟩
 obtain⟨g,o,r1,r2,r3⟩:=hH.bh b k hb
 exact⟨g,o,r1,by rw[q4.kept g (Array.getElem?_eq_some_iff.1 r2).1 vL];exact r2,r3⟩
theorem vM:∀{t:List (Nat×V×V)}{f:Nat}{a v:V},ky t f a=some v→∃e∈t,e=(f,a,v)
 |[],f,a,v,h=>by cases h
 |
  e::t,f,a,v,h=>by
  obtain⟨g,x,y⟩:=e
  have h0:@Bool.rec (fun _=>Option V) (ky t f a) (@Bool.rec (fun _=>Option V) (ky t f a) (some y) (isTrue (fa x a))) (Nat.beq g f)=some v:=h
  have rest:ky t f a=some v→∃e∈(g,x,y)::t,e=(f,a,v):=fun hh=>let⟨e,h1,h2⟩:=vM hh;⟨e,List.mem_cons_of_mem _ h1,h2⟩
  cases hb:Nat.beq g f with
  |false=>rw[hb] at h0;exact rest h0
  |
   true=>
   rw[hb] at h0
   cases hs:isTrue (fa x a) with
   |false=>rw[hs] at h0;exact rest h0
   |
    true=>
    rw[hs] at h0
    have e1:=bg hb
    have e2:=iS _ _ (iT hs)
    cases(show some y=some v from h0)
    subst e1;subst e2
    exact⟨_,List.mem_cons_self ..,rfl⟩
def dv(P:Program)(gl:List V)(e:Nat×V×V):Prop:=∀hp nx,dz P gl e.1 e.2.1 hp nx e.2.2 hp nx
theorem BA{t:List (Nat×V×V)}(h:∀e∈t,dv P gl e):∀f args v,ky t f args=some v→∀hp nx,dz P gl f args hp nx v hp nx:=by
 intro f args v hl hp nx
 obtain⟨e,he,rfl⟩:=vM hl
 exact h _ he hp nx
noncomputable def pV(P:Program)(gl:List V)(hk:Hk)(n:Nat)(f:FuncId)(x v:V):Bool:=
 bn (D4 x) (bn (D4 v) (@Option.rec Rs (fun _=>Bool) false (fun _=>true) (jf P hk (exec P gl hk n) (jg P (exec P gl hk n)) f x .e [] fun y _ _=>bf (isTrue (fa y v)) (some (.mk .gH .e .e [] .nil)))))
theorem eI{hk:Hk}(hG:vB P gl hk)(hm:P.follows .mixedOrders=true){n:Nat}{f:FuncId}{x v:V}(h:pV P gl hk n f x v=true):dv P gl (f,x,v):=by
 obtain⟨h1,h2⟩:=aI h
 obtain⟨h3,h4⟩:=aI h2
 cases hr:jf P hk (exec P gl hk n) (jg P (exec P gl hk n)) f x .e [] fun y _ _=>bf (isTrue (fa y v)) (some (.mk .gH .e .e [] .nil)) with
 |none=>rw[hr] at h4;cases h4
 |
  some R=>
  obtain⟨y,R0,RY,q1,q2⟩:=jj (po hG hm n).1 hG.JF hG.hash hG.Kj hG.ext hr
  obtain⟨q3,_⟩:=ah q1
  have:=iS _ _ (iT q3)
  subst this
  exact Au q2 h1 h3
theorem BB{h k k' x:Nat}{xf:V→T aj→Id→Option Xr}{t t':List (Nat×V×V)}(hG:vB P gl ⟨h,k,t,x,xf⟩)(ht:∀e∈t',dv P gl e):vB P gl ⟨h,k',t',x,xf⟩:=
 ⟨hG.JF,hG.hash,BA ht,hG.ext⟩
noncomputable def vl(l:List V):V:=@List.rec V (fun _=>V) .nil (fun a _ ih=>.cons a ih) l
noncomputable def pW{α:Type}(l:List (Nat×α)):T α:=@List.rec (Nat×α) (fun _=>T α) .e (fun p _ ih=>put (some p.2) (aB p.1) ih) l
noncomputable def ids(l:List Nat):List Id:=@List.rec Nat (fun _=>List Id) [] (fun p _ ih=>aB p::ih) l
noncomputable def vx(l:List V)(r:V):V:=@List.rec V (fun _=>V) r (fun a _ ih=>.cons a ih) l
noncomputable def vb(l:List Nat)(r:V):V:=@List.rec Nat (fun _=>V) r (fun a _ ih=>.cons (.i .u8 (.ofNat a)) ih) l
noncomputable def Kp(r:Option Rs):Option V:=Bf r fun x tm _ _ _=>@Xt.casesOn (fun _=>Option V) x none (fun _=>none) (get (aB 0) tm)
noncomputable def kg(c:Code):Code:=match c with
 | .seq a _=>a
 |_=>.skip
noncomputable def an(c:Code):Code:=match c with
 | .seq _ b=>b
 |_=>.skip
noncomputable def Kq(P:Program)(f:Nat):Code:=@Option.rec Func (fun _=>Code) .skip (fun fn=>@Option.rec Code (fun _=>Code) .skip (fun c=>c) fn.body) (eK P.funcs.toList f)
theorem D5{c d:Code}{sz:Nat}{tm j8 Be:T V}{hp cX nC:T aj}{nx ei sB:Id}{df df1 df2:V}{x:Xt}(h:ep P gl c sz tm hp nx df .gH j8 cX ei df1)(k:ep P gl d sz j8 cX ei df1 x Be nC sB df2):ep P gl (.seq c d) sz tm hp nx df x Be nC sB df2:=by
 refine⟨Nat.le_trans h.1 k.1,?_⟩
 intro r L E a w hLe R9 SF Q hQ
 refine wpIn_seq (h.2 r L E a w (Nat.le_trans k.1 hLe) R9 SF _ ?_)
 intro E' a' w' k1 k2 k3
 exact k.2 r L E' a' w' hLe k1 k2 Q (fun E2 a2 w2 q1 q2 q3=>hQ E2 a2 w2 q1 q2 (k3.trans q3))
noncomputable def BC(c:Code):Bool:=match c with
 | .seq _ _=>true
 |_=>false
theorem Kr{c:Code}(h:BC c=true):Code.seq (kg c) (an c)=c:=by
 cases c<;>simp only[BC] at h<;>first|rfl|cases h
theorem c7{c:Code}(hs:BC c=true){sz:Nat}{tm j8 Be:T V}{hp cX nC:T aj}{nx ei sB:Id}{df df1 df2:V}{x:Xt}(h:ep P gl (kg c) sz tm hp nx df .gH j8 cX ei df1)(k:ep P gl (an c) sz j8 cX ei df1 x Be nC sB df2):ep P gl c sz tm hp nx df x Be nC sB df2:=by
 have:=D5 h k
 rw[Kr hs] at this
 exact this
theorem D6{r:Option Rs}{v:V}(h:Kp r=some v):∃tm hp nx df,r=some (.mk .ret tm hp nx df)∧get (aB 0) tm=some v:=by
 obtain⟨x,tm,hp,nx,df,h1,h2⟩:=fw h
 cases x with
 |ret=>exact⟨tm,hp,nx,df,h1,h2⟩
 |_=>cases h2
theorem vN{c:Code}{sz:Nat}{tm j8 Be:T V}{hp cX nC:T aj}{nx ei:Id}{df df1:V}{x:Xt}(h:ep P gl c sz tm hp nx df x j8 cX ei df1)(ht:∀p v,get p Be=some v→get p j8=some v)(hh:∀b k,get b nC=some k→get b cX=some k):ep P gl c sz tm hp nx df x Be nC ei df1:=by
 refine⟨h.1,?_⟩
 intro r L E a w hLe R9 SF Q hQ
 refine h.2 r L E a w hLe R9 SF Q ?_
 intro E' a' w' k1 k2 k3
 have own:∀E g,Own nC E g→Own cX E g:=fun E g ⟨b,k,hb,hg⟩=>⟨b,k,hh b k hb,hg⟩
 refine hQ E' a' w' ⟨fun p v hv=>k1.vt p v (ht p v hv),k1.vs,⟨fun b k hb=>k1.vh.bh b k (hh b k hb),fun b b' k k' g h1 h2=>k1.vh.sep b b' k k' g (hh b k h1) (hh b' k' h2)⟩,k1.vf,fun g y hy=>⟨fun ho=>(k1.vg g y hy).1 (own E' g ho),(k1.vg g y hy).2⟩⟩ k2 ⟨k3.os,k3.tape,k3.output,k3.size,k3.kept,fun g hg=>k3.own g (own E' g hg),k3.DT,k3.env⟩
noncomputable def dU{α:Type}(t:T α)(l:List Id):T α:=@List.rec Id (fun _=>T α) .e (fun b _ ih=>put (get b t) b ih) l
theorem iW{α:Type}{t:T α}:∀{l:List Id}{b:Id}{v:α},get b (dU t l)=some v→get b t=some v
 |[],b,v,h=>by rw[show dU t []= .e from rfl,gM] at h;cases h
 |
  a::l,b,v,h=>by
  rw[show dU t (a::l)=put (get a t) a (dU t l) from rfl,bJ] at h
  split at h
  ·rename_i e;subst e;exact h
  ·exact iW h
noncomputable def vO(P:Program)(gl:List V)(hk:Hk)(n:Nat)(c:Code)(SM sz:Nat)(tm:T V)(hp:T aj)(nx:Id)(lt lh:List Id):Option Rs:=
 Bf (exec P gl hk n c SM sz tm hp nx .nil) fun x tm hp nx df=>@Xt.casesOn (fun _=>Option Rs) x (df.split (some (.mk .gH (dU tm lt) (dU hp lh) nx .nil)) (fun _ _=>none) none) (fun _=>none) (df.split (some (.mk .ret (dU tm lt) (dU hp lh) nx .nil)) (fun _ _=>none) none)
theorem dX{hk:Hk}(hG:vB P gl hk)(hm:P.follows .mixedOrders=true){n:Nat}{c:Code}{SM sz:Nat}{tm Sf:T V}{hp R0:T aj}{nx RY:Id}{Si:V}{lt lh:List Id}{x:Xt}(h:vO P gl hk n c SM sz tm hp nx lt lh=some (.mk x Sf R0 RY Si)):ep P gl c sz tm hp nx .nil x Sf R0 RY .nil:=by
 obtain⟨x1,j8,cX,ei,df1,h1,h2⟩:=fw h
 have s:=(po hG hm n).1 _ _ _ _ _ _ _ _ _ _ _ _ h1
 cases x1 with
 |
  gH=>
  rcases bF (show df1.split (some (Rs.mk .gH (dU j8 lt) (dU cX lh) ei .nil)) (fun _ _=>none) none=some (.mk x Sf R0 RY Si) from h2) with⟨rfl,h3⟩|⟨_,_,_,h3⟩
  ·cases h3
   exact vN s (fun p v h=>iW h) (fun b k h=>iW h)
  ·cases h3
 |ext i=>cases h2
 |
  ret=>
  rcases bF (show df1.split (some (Rs.mk .ret (dU j8 lt) (dU cX lh) ei .nil)) (fun _ _=>none) none=some (.mk x Sf R0 RY Si) from h2) with⟨rfl,h3⟩|⟨_,_,_,h3⟩
  ·cases h3
   exact vN s (fun p v h=>iW h) (fun b k h=>iW h)
  ·cases h3
theorem tQ{f:FuncId}{fn:Func}{c:Code}(hE:Enters P)(hf:P.funcs[f]? =some fn)(hc:fn.body=some c){x:Xt}(hx:qR x= .normal∨qR x= .ret){j8:T V}{cX:T aj}{ei:Id}(s:ep P gl c fn.ntmps .e .e [] .nil x j8 cX ei .nil){y:V}(hy:mG P cX j8 fn.results.toList=some y):
 dz P gl f .nil .e [] (one y) cX ei:=by
 refine⟨hE f fn hf (by rw[hc];simp),s.1,?_⟩
 intro L E w vs hL hv hH hF hG
 refine callsIn_of_wp_marks (F:=Fence.wide) hf hc trivial ?_ rfl
 obtain⟨fr1,fr2⟩:=qT (n:=fn.ntmps) hv
 refine s.2 none L E {tmps:=vs.toArray++Array.replicate (fn.ntmps -vs.toArray.size) undef,defers:=[]} w hL ⟨fr1,fr2,hH,hF,hG⟩ (Or.inl ⟨rfl,show RD E .nil [] from rfl⟩) _ ?_
 intro E1 a1 w1 k1 k2 k3
 have hrd:RD E1 .nil a1.defers:=by
  rcases k2 with⟨_,k2⟩|⟨_,_,_,k2,_⟩
  ·exact k2
  ·cases k2
 have hrd:a1.defers= []:=hrd
 obtain⟨u,u1,u2⟩:=ma (P:=P) (w:=w1) k1.vt k1.vh hy
 have leave:LeavesInM (Fr none) 0 P fn a1.tmps (fun e w'=>∃u E',e= .returned u∧RV E' (one y) u∧RH E' cX w'∧bI L ei E'∧Ex .e [] E w cX ei E' w') a1.defers .returning w1:=by
  rw[hrd]
  exact⟨u,u1,u,E1,rfl,u2,k1.vh,k1.vf,k3⟩
 rcases hx with hx|hx
 ·rw[hx];exact leave
 ·rw[hx];exact leave
end
end Go.Cm
namespace Go.Cm
abbrev cw:Nat:=4294967296
def cE(a k:Nat):Nat:=(a >>> k) ||| ((a <<< (32 -k)) % cw)
theorem IL:cw=2^32:=rfl
theorem ki{a:Nat}(h:a<cw){i:Nat}(hi:32≤i):a.testBit i=false:=
 Nat.testBit_lt_two_pow (Nat.lt_of_lt_of_le (show a<2^32 from h) (Nat.pow_le_pow_right (by decide) hi))
theorem vP{a:Nat}(h:a<cw){k:Nat}(_h1:1≤k)(h2:k≤31)(i:Nat):(cE a k).testBit i=(decide (i<32)&&a.testBit ((i+k) % 32)):=by
 unfold cE
 rw[Nat.testBit_or,Nat.testBit_shiftRight,IL,Nat.testBit_mod_two_pow,Nat.testBit_shiftLeft]
 by_cases hi:i<32
 ·by_cases hk:i+k<32
  ·have e:(i+k) % 32=k+i:=by omega
   have:¬32 -k≤i:=by omega
   simp[hi,e,this]
  ·have e:(i+k) % 32=i -(32 -k):=by omega
   have g:32 -k≤i:=by omega
   have z:a.testBit (k+i)=false:=ki h (by omega)
   simp[hi,e,g,z]
 ·have z:a.testBit (k+i)=false:=ki h (by omega)
  simp[hi,z]
theorem fZ{a:Nat}(h:a<cw){k:Nat}(h1:1≤k)(h2:k≤31):cE a k<cw:=by
 show cE a k<2^32
 refine Nat.lt_pow_two_of_testBit _ (fun i hi=>?_)
 rw[vP h h1 h2]
 have:¬i<32:=by omega
 simp[this]
theorem D7{a:Nat}(h:a<cw)(i:Nat):(uA a).testBit i=(decide (i<64)&&a.testBit (i % 32)):=by
 have e:uA a=a <<< 32+a:=by
  show a*4294967297=_
  rw[Nat.shiftLeft_eq];omega
 rw[e,Nat.shiftLeft_add_eq_or_of_lt h,Nat.testBit_or,Nat.testBit_shiftLeft]
 by_cases h1:i<32
 ·have e1:i % 32=i:=by omega
  have:¬32≤i:=by omega
  simp[this,e1,show i<64 by omega]
 ·by_cases h2:i<64
  ·have e1:i % 32=i -32:=by omega
   have z:a.testBit i=false:=ki h (by omega)
   simp[h2,e1,z,show 32≤i by omega]
  ·have z:a.testBit i=false:=ki h (by omega)
   have z2:a.testBit (i -32)=false:=ki h (by omega)
   simp[h2,z,z2]
theorem mw{a:Nat}(h:a<cw){k:Nat}(h1:1≤k)(h2:k≤31)(i:Nat)(hi:i<32):(Nat.shiftRight (uA a) k).testBit i=(cE a k).testBit i:=by
 show((uA a) >>> k).testBit i=_
 rw[Nat.testBit_shiftRight,D7 h,vP h h1 h2]
 have e:(k+i) % 32=(i+k) % 32:=by omega
 simp[hi,e,show k+i<64 by omega]
theorem yT{a:Nat}(h:a<cw){i j k:Nat}(i1:1≤i)(i2:i≤31)(j1:1≤j)(j2:j≤31)(k1:1≤k)(k2:k≤31):Cw i j k (uA a)=cE a i ^^^ cE a j ^^^ cE a k:=by
 refine Nat.eq_of_testBit_eq (fun n=>?_)
 show(((uA a).shiftRight i ^^^ (uA a).shiftRight j ^^^ (uA a).shiftRight k) % 2^32).testBit n=_
 rw[Nat.testBit_mod_two_pow]
 by_cases hn:n<32
 ·rw[decide_eq_true hn,Bool.true_and,Nat.testBit_xor,Nat.testBit_xor,mw h i1 i2 n hn,mw h j1 j2 n hn,mw h k1 k2 n hn,Nat.testBit_xor,Nat.testBit_xor]
 ·rw[decide_eq_false hn,Bool.false_and,Nat.testBit_xor,Nat.testBit_xor,ki (fZ h i1 i2) (by omega),ki (fZ h j1 j2) (by omega),ki (fZ h k1 k2) (by omega)]
  rfl
theorem yU{a:Nat}(h:a<cw){i j k:Nat}(i1:1≤i)(i2:i≤31)(j1:1≤j)(j2:j≤31):Cx i j k a (uA a)=cE a i ^^^ cE a j ^^^ (a >>> k):=by
 refine Nat.eq_of_testBit_eq (fun n=>?_)
 show((((uA a).shiftRight i ^^^ (uA a).shiftRight j) % 2^32) ^^^ (a >>> k)).testBit n=_
 rw[Nat.testBit_xor,Nat.testBit_mod_two_pow,Nat.testBit_xor,Nat.testBit_xor,Nat.testBit_xor]
 by_cases hn:n<32
 ·rw[decide_eq_true hn,Bool.true_and,mw h i1 i2 n hn,mw h j1 j2 n hn]
 ·rw[decide_eq_false hn,Bool.false_and,ki (fZ h i1 i2) (by omega),ki (fZ h j1 j2) (by omega)]
  rfl
def PK(e f g:Nat):Nat:=(e &&& f) ^^^ ((4294967295 ^^^ e) &&& g)
def Ks(a b c:Nat):Nat:=(a &&& b) ^^^ (a &&& c) ^^^ (b &&& c)
theorem IM{e f g:Nat}(hg:g<cw):O4 e f g=PK e f g:=by
 refine Nat.eq_of_testBit_eq (fun n=>?_)
 show(g ^^^ (e &&& (f ^^^ g))).testBit n=((e &&& f) ^^^ ((4294967295 ^^^ e) &&& g)).testBit n
 simp only[Nat.testBit_xor,Nat.testBit_and]
 by_cases hn:n<32
 ·have:(4294967295:Nat).testBit n=true:=by
   rw[show(4294967295:Nat)=2^32 -1 from rfl,Nat.testBit_two_pow_sub_one];exact decide_eq_true hn
  rw[this]
  cases e.testBit n<;>cases f.testBit n<;>cases g.testBit n<;>rfl
 ·rw[ki hg (by omega)]
  cases e.testBit n<;>cases f.testBit n<;>simp
theorem IN(a b c:Nat):O5 a b c=Ks a b c:=by
 refine Nat.eq_of_testBit_eq (fun n=>?_)
 show((a &&& b) ||| (c &&& (a ||| b))).testBit n=((a &&& b) ^^^ (a &&& c) ^^^ (b &&& c)).testBit n
 simp only[Nat.testBit_xor,Nat.testBit_and,Nat.testBit_or]
 cases a.testBit n<;>cases b.testBit n<;>cases c.testBit n<;>rfl
def pk:List Nat→Nat
 |[]=>0
 |a::l=>a+cw*pk l
def cM(l:List Nat):Prop:=∀x∈l,x<cw
theorem BD:∀{l:List Nat},cM l→pk l<2^(32*l.length)
 |[],_=>by simp[pk]
 |
  a::l,h=>by
  have ih:=BD (l:=l) (fun x hx=>h x (List.mem_cons_of_mem _ hx))
  have ha:=h a (List.mem_cons_self ..)
  rw[List.length_cons,show 32*(l.length+1)=32*l.length+32 by omega,Nat.pow_add]
  simp only[pk]
  have:(2:Nat)^32=cw:=rfl
  rw[this]
  have h2:cw*(pk l+1)≤cw*2^(32*l.length):=Nat.mul_le_mul_left _ ih
  rw[Nat.mul_add] at h2
  rw[Nat.mul_comm (2^(32*l.length))]
  omega
theorem pX:∀(l m:List Nat),pk (l++m)=pk l+2^(32*l.length)*pk m
 |[],m=>by simp[pk]
 |
  a::l,m=>by
  rw[List.cons_append]
  simp only[pk]
  rw[pX l m,List.length_cons,show 32*(l.length+1)=32+32*l.length by omega,Nat.pow_add,Nat.mul_add,Nat.add_assoc,Nat.mul_assoc]
theorem nF(l m:List Nat)(h:cM l):pk (l++m) / 2^(32*l.length)=pk m:=by
 rw[pX,Nat.add_mul_div_left _ _ (Nat.two_pow_pos _),Nat.div_eq_of_lt (BD h),Nat.zero_add]
theorem IP(l m:List Nat)(h:cM l):pk (l++m) % 2^(32*l.length)=pk l:=by
 rw[pX,Nat.add_mul_mod_self_left,Nat.mod_eq_of_lt (BD h)]
theorem iy(l m:List Nat)(a:Nat)(h:cM l)(ha:a<cw):wd (pk (l++a::m)) (32*l.length)=a:=by
 show(pk (l++a::m)) >>> (32*l.length) % 4294967296=a
 rw[Nat.shiftRight_eq_div_pow,nF l _ h]
 show(a+cw*pk m) % cw=a
 rw[Nat.add_mul_mod_self_left,Nat.mod_eq_of_lt ha]
def Qy(x:Nat):Nat:=cE x 7 ^^^ cE x 18 ^^^ (x >>> 3)
def Qz(x:Nat):Nat:=cE x 17 ^^^ cE x 19 ^^^ (x >>> 10)
def QA(x:Nat):Nat:=cE x 2 ^^^ cE x 13 ^^^ cE x 22
def QB(x:Nat):Nat:=cE x 6 ^^^ cE x 11 ^^^ cE x 25
def T1(k w e f g h:Nat):Nat:=h+QB e+PK e f g+(k+w)
def T2(a b c:Nat):Nat:=QA a+Ks a b c
structure S8 where
 (a b c d e f g h:Nat)
def S8.l(s:S8):List Nat:=[s.a,s.b,s.c,s.d,s.e,s.f,s.g,s.h]
def S8.nx(s:S8)(k w:Nat):S8:=
 ⟨(T1 k w s.e s.f s.g s.h+T2 s.a s.b s.c) % cw,s.a,s.b,s.c,(s.d+T1 k w s.e s.f s.g s.h) % cw,s.e,s.f,s.g⟩
theorem S8.BE{s:S8}(h:cM s.l)(k w:Nat):cM (s.nx k w).l:=by
 intro x hx
 simp only[S8.l,S8.nx,List.mem_cons,List.not_mem_nil,or_false] at hx
 have hh:∀y∈s.l,y<cw:=h
 simp only[S8.l,List.mem_cons,List.not_mem_nil,or_false,forall_eq_or_imp,forall_eq] at hh
 obtain⟨h1,h2,h3,h4,h5,h6,h7,h8⟩:=hh
 rcases hx with rfl|rfl|rfl|rfl|rfl|rfl|rfl|rfl
 ·exact Nat.mod_lt _ (by decide)
 ·exact h1
 ·exact h2
 ·exact h3
 ·exact Nat.mod_lt _ (by decide)
 ·exact h5
 ·exact h6
 ·exact h7
theorem cN:cM []:=fun x hx=>by cases hx
theorem cM.cons{a:Nat}{l:List Nat}(ha:a<cw)(h:cM l):cM (a::l):=fun x hx=>by
 rcases List.mem_cons.1 hx with rfl|hx
 ·exact ha
 ·exact h x hx
theorem cM.tail{a:Nat}{l:List Nat}(h:cM (a::l)):cM l:=fun x hx=>h x (List.mem_cons_of_mem _ hx)
theorem cM.head{a:Nat}{l:List Nat}(h:cM (a::l)):a<cw:=h a (List.mem_cons_self ..)
theorem FV(a b c:Nat)(m:List Nat)(h:cM [a,b,c]):Nat.mod (pk (a::b::c::m)) 79228162514264337593543950336=pk [a,b,c]:=by
 have:=IP [a,b,c] m h
 rw[show 32*[a,b,c].length=96 from rfl] at this
 rw[show(2:Nat)^96=79228162514264337593543950336 by decide] at this
 exact this
theorem D8{s:S8}(h:cM s.l)(k:Nat){w0:Nat}{ws:List Nat}(hw:w0<cw):
 N8 (pk s.l) (t1 k (pk s.l) (pk (w0::ws)) (wd (pk s.l) 128)) (t2 (pk s.l) (wd (pk s.l) 0))=pk (s.nx k w0).l:=by
 obtain⟨a,b,c,d,e,f,g,hh⟩:=s
 have h1:=h.head
 have h2:=h.tail.head
 have h3:=h.tail.tail.head
 have h4:=h.tail.tail.tail.head
 have h5:=h.tail.tail.tail.tail.head
 have h6:=h.tail.tail.tail.tail.tail.head
 have h7:=h.tail.tail.tail.tail.tail.tail.head
 have h8:=h.tail.tail.tail.tail.tail.tail.tail.head
 have L1:cM [a]:=cM.cons h1 cN
 have L2:cM [a,b]:=cM.cons h1 (cM.cons h2 cN)
 have L3:cM [a,b,c]:=cM.cons h1 (cM.cons h2 (cM.cons h3 cN))
 have L4:cM [a,b,c,d]:=cM.cons h1 (cM.cons h2 (cM.cons h3 (cM.cons h4 cN)))
 have L5:cM [a,b,c,d,e]:=cM.cons h1 (cM.cons h2 (cM.cons h3 (cM.cons h4 (cM.cons h5 cN))))
 have L6:cM [a,b,c,d,e,f]:=cM.cons h1 (cM.cons h2 (cM.cons h3 (cM.cons h4 (cM.cons h5 (cM.cons h6 cN)))))
 have L7:cM [a,b,c,d,e,f,g]:=cM.cons h1 (cM.cons h2 (cM.cons h3 (cM.cons h4 (cM.cons h5 (cM.cons h6 (cM.cons h7 cN))))))
 have R3:cM [e,f,g]:=cM.cons h5 (cM.cons h6 (cM.cons h7 cN))
 have d0:wd (pk [a,b,c,d,e,f,g,hh]) 0=a:=iy [] _ a cN h1
 have d1:wd (pk [a,b,c,d,e,f,g,hh]) 32=b:=iy [a] _ b L1 h2
 have d2:wd (pk [a,b,c,d,e,f,g,hh]) 64=c:=iy [a,b] _ c L2 h3
 have d3:wd (pk [a,b,c,d,e,f,g,hh]) 96=d:=iy [a,b,c] _ d L3 h4
 have d4:wd (pk [a,b,c,d,e,f,g,hh]) 128=e:=iy [a,b,c,d] _ e L4 h5
 have d5:wd (pk [a,b,c,d,e,f,g,hh]) 160=f:=iy [a,b,c,d,e] _ f L5 h6
 have d6:wd (pk [a,b,c,d,e,f,g,hh]) 192=g:=iy [a,b,c,d,e,f] _ g L6 h7
 have d7:wd (pk [a,b,c,d,e,f,g,hh]) 224=hh:=iy [a,b,c,d,e,f,g] _ hh L7 h8
 have dw:wd (pk (w0::ws)) 0=w0:=iy [] ws w0 cN hw
 have m1:Nat.mod (pk [a,b,c,d,e,f,g,hh]) 79228162514264337593543950336=pk [a,b,c]:=FV a b c [d,e,f,g,hh] L3
 have m2:Nat.shiftRight (pk [a,b,c,d,e,f,g,hh]) 128=pk [e,f,g,hh]:=by
  show pk [a,b,c,d,e,f,g,hh] >>> 128=_
  rw[Nat.shiftRight_eq_div_pow]
  exact nF [a,b,c,d] [e,f,g,hh] L4
 have m3:Nat.mod (pk [e,f,g,hh]) 79228162514264337593543950336=pk [e,f,g]:=FV e f g [hh] R3
 have et1:t1 k (pk [a,b,c,d,e,f,g,hh]) (pk (w0::ws)) e=T1 k w0 e f g hh:=by
  show wd (pk [a,b,c,d,e,f,g,hh]) 224+Cw 6 11 25 (uA e)+O4 e (wd (pk [a,b,c,d,e,f,g,hh]) 160) (wd (pk [a,b,c,d,e,f,g,hh]) 192)+(k+wd (pk (w0::ws)) 0)=_
  rw[d5,d6,d7,dw,yT h5 (by omega) (by omega) (by omega) (by omega) (by omega) (by omega),IM h7];rfl
 have et2:t2 (pk [a,b,c,d,e,f,g,hh]) a=T2 a b c:=by
  show Cw 2 13 22 (uA a)+O5 a (wd (pk [a,b,c,d,e,f,g,hh]) 32) (wd (pk [a,b,c,d,e,f,g,hh]) 64)=_
  rw[d1,d2,yT h1 (by omega) (by omega) (by omega) (by omega) (by omega) (by omega),IN];rfl
 show N8 (pk [a,b,c,d,e,f,g,hh]) (t1 k (pk [a,b,c,d,e,f,g,hh]) (pk (w0::ws)) (wd (pk [a,b,c,d,e,f,g,hh]) 128)) (t2 (pk [a,b,c,d,e,f,g,hh]) (wd (pk [a,b,c,d,e,f,g,hh]) 0))=_
 rw[d4,d0,et1,et2]
 show(T1 k w0 e f g hh+T2 a b c) % 4294967296+Nat.mod (pk [a,b,c,d,e,f,g,hh]) 79228162514264337593543950336*4294967296+((wd (pk [a,b,c,d,e,f,g,hh]) 96+T1 k w0 e f g hh) % 4294967296+Nat.mod (Nat.shiftRight (pk [a,b,c,d,e,f,g,hh]) 128) 79228162514264337593543950336*4294967296)*340282366920938463463374607431768211456=_
 rw[d3,m1,m2,m3]
 show _=pk ([(T1 k w0 e f g hh+T2 a b c) % cw,a,b,c]++[(d+T1 k w0 e f g hh) % cw,e,f,g])
 rw[pX]
 rw[show(2:Nat)^(32*[(T1 k w0 e f g hh+T2 a b c) % cw,a,b,c].length)=340282366920938463463374607431768211456 from(by decide:(2:Nat)^128=340282366920938463463374607431768211456)]
 simp only[pk,cw]
 generalize (T1 k w0 e f g hh+T2 a b c) % 4294967296=X
 generalize (d+T1 k w0 e f g hh) % 4294967296=Y
 omega
def nw(x0 x1 x9 x14:Nat):Nat:=(x0+Qy x1+(x9+Qz x14)) % cw
theorem Om:(2:Nat)^(32*15)=3121748550315992231381597229793166305748598142664971150859156959625371738819765620120306103063491971159826931121406622895447975679288285306290176:=by decide+kernel
theorem D9(l:List Nat)(hl:l.length=15)(y:Nat):pk (l++[y])=pk l+y*3121748550315992231381597229793166305748598142664971150859156959625371738819765620120306103063491971159826931121406622895447975679288285306290176:=by
 have e:pk [y]=y:=by show y+cw*0=y;omega
 rw[pX,hl,Om,e,Nat.mul_comm]
theorem Ea{l:List Nat}(h:cM l)(hl:l.length=16):O7 (pk l)=pk (l.drop 1++[nw (l.getD 0 0) (l.getD 1 0) (l.getD 9 0) (l.getD 14 0)]):=by
 match l,hl with
 |
  [x0,x1,x2,x3,x4,x5,x6,x7,x8,x9,tJ,tK,lM,rR,x14,x15],_=>
  have hx:∀y∈[x0,x1,x2,x3,x4,x5,x6,x7,x8,x9,tJ,tK,lM,rR,x14,x15],y<cw:=h
  have sub:∀m:List Nat,(∀y∈m,y∈[x0,x1,x2,x3,x4,x5,x6,x7,x8,x9,tJ,tK,lM,rR,x14,x15])→cM m:=fun m hm y hy=>h y (hm y hy)
  have d0:wd (pk [x0,x1,x2,x3,x4,x5,x6,x7,x8,x9,tJ,tK,lM,rR,x14,x15]) 0=x0:=iy [] _ x0 cN (hx _ (by simp))
  have d1:wd (pk [x0,x1,x2,x3,x4,x5,x6,x7,x8,x9,tJ,tK,lM,rR,x14,x15]) 32=x1:=iy [x0] _ x1 (sub _ (by simp)) (hx _ (by simp))
  have d9:wd (pk [x0,x1,x2,x3,x4,x5,x6,x7,x8,x9,tJ,tK,lM,rR,x14,x15]) 288=x9:=iy [x0,x1,x2,x3,x4,x5,x6,x7,x8] _ x9 (sub _ (by simp)) (hx _ (by simp))
  have d14:wd (pk [x0,x1,x2,x3,x4,x5,x6,x7,x8,x9,tJ,tK,lM,rR,x14,x15]) 448=x14:=iy [x0,x1,x2,x3,x4,x5,x6,x7,x8,x9,tJ,tK,lM,rR] _ x14 (sub _ (by simp)) (hx _ (by simp))
  have e1:x1<cw:=hx _ (by simp)
  have e14:x14<cw:=hx _ (by simp)
  have sh:Nat.shiftRight (pk [x0,x1,x2,x3,x4,x5,x6,x7,x8,x9,tJ,tK,lM,rR,x14,x15]) 32=pk [x1,x2,x3,x4,x5,x6,x7,x8,x9,tJ,tK,lM,rR,x14,x15]:=by
   show(pk ([x0]++[x1,x2,x3,x4,x5,x6,x7,x8,x9,tJ,tK,lM,rR,x14,x15])) >>> 32=_
   rw[Nat.shiftRight_eq_div_pow]
   exact nF [x0] _ (sub _ (by simp))
  have ew:O6 (pk [x0,x1,x2,x3,x4,x5,x6,x7,x8,x9,tJ,tK,lM,rR,x14,x15]) x1 x14=nw x0 x1 x9 x14:=by
   show(wd (pk [x0,x1,x2,x3,x4,x5,x6,x7,x8,x9,tJ,tK,lM,rR,x14,x15]) 0+Cx 7 18 3 x1 (uA x1)+(wd (pk [x0,x1,x2,x3,x4,x5,x6,x7,x8,x9,tJ,tK,lM,rR,x14,x15]) 288+Cx 17 19 10 x14 (uA x14))) % 4294967296=_
   rw[d0,d9,yU e1 (by omega) (by omega) (by omega) (by omega),yU e14 (by omega) (by omega) (by omega) (by omega)];rfl
  show Nat.shiftRight (pk [x0,x1,x2,x3,x4,x5,x6,x7,x8,x9,tJ,tK,lM,rR,x14,x15]) 32+O6 (pk [x0,x1,x2,x3,x4,x5,x6,x7,x8,x9,tJ,tK,lM,rR,x14,x15]) (wd (pk [x0,x1,x2,x3,x4,x5,x6,x7,x8,x9,tJ,tK,lM,rR,x14,x15]) 32) (wd (pk [x0,x1,x2,x3,x4,x5,x6,x7,x8,x9,tJ,tK,lM,rR,x14,x15]) 448)*3121748550315992231381597229793166305748598142664971150859156959625371738819765620120306103063491971159826931121406622895447975679288285306290176=_
  rw[d1,d14,sh,ew]
  show _=pk ([x1,x2,x3,x4,x5,x6,x7,x8,x9,tJ,tK,lM,rR,x14,x15]++[nw x0 x1 x9 x14])
  rw[D9 _ rfl]
end Go.Cm
namespace Go.Cm
def Av(ws:List Nat):List Nat:=ws.drop 1++[nw (ws.getD 0 0) (ws.getD 1 0) (ws.getD 9 0) (ws.getD 14 0)]
def tR:List Nat→S8→List Nat→S8
 |[],s,_=>s
 |k::ks,s,ws=>tR ks (s.nx k (ws.getD 0 0)) (Av ws)
theorem BF{ws:List Nat}(h:cM ws):cM (Av ws):=by
 intro x hx
 rcases List.mem_append.1 hx with hx|hx
 ·exact h x (List.mem_of_mem_drop hx)
 ·have:x=_:=List.mem_singleton.1 hx
  subst this
  exact Nat.mod_lt _ (by decide)
theorem BG{ws:List Nat}(h:ws.length=16):(Av ws).length=16:=by
 simp[Av,h]
theorem sm:∀(ks:List Nat)(s:S8)(ws:List Nat),cM s.l→cM ws→ws.length=16→rounds ks (pk s.l) (pk ws)=pk (tR ks s ws).l∧cM (tR ks s ws).l
 |[],s,ws,h,_,_=>⟨rfl,h⟩
 |
  k::ks,s,ws,h,hw,hl=>by
  show(fN (t1 k (pk s.l) (pk ws) (wd (pk s.l) 128)) fun t=>fN (N8 (pk s.l) t (t2 (pk s.l) (wd (pk s.l) 0))) fun s'=>fN (O7 (pk ws)) fun w'=>rounds ks s' w')=_∧_
  rw[cj,cj,cj,Ea hw hl]
  match ws,hl with
  |
   w0::ws,hl=>
   rw[D8 h k hw.head]
   exact sm ks _ _ (S8.BE h k w0) (BF hw) (BG hl)
def S8.add(s t:S8):S8:=⟨(s.a+t.a) % cw,(s.b+t.b) % cw,(s.c+t.c) % cw,(s.d+t.d) % cw,(s.e+t.e) % cw,(s.f+t.f) % cw,(s.g+t.g) % cw,(s.h+t.h) % cw⟩
theorem S8.Eb(s t:S8):cM (s.add t).l:=by
 intro x hx
 simp only[S8.l,S8.add,List.mem_cons,List.not_mem_nil,or_false] at hx
 rcases hx with rfl|rfl|rfl|rfl|rfl|rfl|rfl|rfl<;>exact Nat.mod_lt _ (by decide)
theorem yV:∀(l m:List Nat),l.length=m.length→cM l→cM m→Cy l.length (pk l) (pk m)=pk (List.zipWith (fun x y=>(x+y) % cw) l m)
 |[],[],_,_,_=>rfl
 |
  a::l,b::m,h,h1,h2=>by
  show(pk (a::l)+pk (b::m)) % 4294967296+Cy l.length ((pk (a::l)) >>> 32) ((pk (b::m)) >>> 32)*4294967296=_
  have e1:(pk (a::l)) >>> 32=pk l:=by
   rw[Nat.shiftRight_eq_div_pow];exact nF [a] l (cM.cons h1.head cN)
  have e2:(pk (b::m)) >>> 32=pk m:=by
   rw[Nat.shiftRight_eq_div_pow];exact nF [b] m (cM.cons h2.head cN)
  rw[e1,e2,yV l m (by simpa using h) h1.tail h2.tail]
  have e3:(pk (a::l)+pk (b::m)) % 4294967296=(a+b) % 4294967296:=by
   simp only[pk,cw];omega
  rw[e3]
  simp only[List.zipWith_cons_cons,pk,cw]
  rw[Nat.mul_comm]
theorem Ec{s t:S8}(h1:cM s.l)(h2:cM t.l):Cy 8 (pk s.l) (pk t.l)=pk (s.add t).l:=yV s.l t.l rfl h1 h2
def yW(l:List Nat):Prop:=∀x∈l,x<256
def FW(a b c d:Nat):Nat:=((a*256+b)*256+c)*256+d
def gv:Nat→List Nat→List Nat
 |0,_=>[]
 |n+1,l=>FW (l.getD 0 0) (l.getD 1 0) (l.getD 2 0) (l.getD 3 0)::gv n (l.drop 4)
theorem my:∀n l,(gv n l).length=n
 |0,_=>rfl
 |n+1,l=>by simp[gv,my n]
theorem pY:∀{n:Nat}{l:List Nat},yW l→cM (gv n l)
 |0,_,_=>cN
 |
  n+1,l,h=>by
  have g:∀i,l.getD i 0<256:=by
   intro i
   rw[List.getD_eq_getElem?_getD]
   cases hi:l[i]? with
   |none=>simp
   |some x=>exact h x (List.mem_of_getElem? hi)
  refine cM.cons ?_ (pY (fun x hx=>h x (List.mem_of_mem_drop hx)))
  have:=g 0;have:=g 1;have:=g 2;have:=g 3
  simp only[FW,cw];omega
theorem four{l:List Nat}{n:Nat}(h:4*(n+1)≤l.length):∃a b c d m,l=a::b::c::d::m:=by
 cases l with
 |nil=>simp at h
 |
  cons a l=>cases l with
  |nil=>simp only[List.length_cons,List.length_nil] at h;omega
  |
   cons b l=>cases l with
   |nil=>simp only[List.length_cons,List.length_nil] at h;omega
   |
    cons c l=>cases l with
    |nil=>simp only[List.length_cons,List.length_nil] at h;omega
    |cons d l=>exact⟨a,b,c,d,l,rfl⟩
noncomputable def Ed{α:Type}(k:Nat→List Nat→Option α)(a b c d:Nat)(w:Nat)(l:List Nat):Option α:=
 fN (Nat.add (Nat.add (Nat.mul (Nat.add (Nat.mul (Nat.add (Nat.mul a 256) b) 256) c) 256) d) (Nat.mul w 4294967296)) fun w=>k w l
theorem xM{α:Type}(n:Nat)(l:List Nat)(k:Nat→List Nat→Option α):
 words (n+1) l k=@List.casesOn Nat (fun _=>Option α) l none fun a l=>@List.casesOn Nat (fun _=>Option α) l none fun b l=>@List.casesOn Nat (fun _=>Option α) l none fun c l=>@List.casesOn Nat (fun _=>Option α) l none fun d l=>words n l (Ed k a b c d):=rfl
theorem xN{α:Type}(n a b c d:Nat)(l:List Nat)(k:Nat→List Nat→Option α):words (n+1) (a::b::c::d::l) k=words n l (Ed k a b c d):=by
 rw[xM]
theorem Ee{α:Type}(k:Nat→List Nat→Option α)(a b c d w:Nat)(l:List Nat):Ed k a b c d w l=k (FW a b c d+cw*w) l:=by
 unfold Ed
 rw[cj]
 have:Nat.add (Nat.add (Nat.mul (Nat.add (Nat.mul (Nat.add (Nat.mul a 256) b) 256) c) 256) d) (Nat.mul w 4294967296)=FW a b c d+cw*w:=by
  rw[Nat.mul_comm cw];rfl
 rw[this]
theorem BH{α:Type}(n:Nat):∀(l:List Nat)(k:Nat→List Nat→Option α),4*n≤l.length→words n l k=k (pk (gv n l)) (l.drop (4*n)):=by
 induction n with
 |zero=>intro l k _;rfl
 |
  succ n ih=>
  intro l k h
  obtain⟨a,b,c,d,m,rfl⟩:=four h
  rw[xN,ih m _ (by simp only[List.length_cons] at h;omega),Ee]
  have e1:(a::b::c::d::m).drop (4*(n+1))=m.drop (4*n):=by
   rw[show 4*(n+1)=4+4*n by omega,←List.drop_drop];rfl
  rw[e1]
  rfl
def Aw(s:S8)(b:List Nat):S8:=s.add (tR jJ s (gv 16 b))
def Ax:Nat→S8→List Nat→S8
 |0,s,_=>s
 |n+1,s,l=>Ax n (Aw s l) (l.drop 64)
theorem vQ(s:S8)(b:List Nat):cM (Aw s b).l:=S8.Eb _ _
theorem sn:∀(q n:Nat)(s:S8)(l:List Nat),q<n→l.length=64*q→yW l→cM s.l→blocks n l (pk s.l)=some (pk (Ax q s l).l)∧cM (Ax q s l).l
 |
  0,n+1,s,l,_,hl,_,hs=>by
  have:l= []:=List.eq_nil_of_length_eq_zero (by omega)
  subst this
  exact⟨rfl,hs⟩
 |
  q+1,n+1,s,l,hq,hl,hb,hs=>by
  match l,hl with
  |
   x::m,hl=>
   show(words 16 (x::m) fun w l=>fN (rounds jJ (pk s.l) w) fun s'=>fN (Cy 8 (pk s.l) s') fun h=>blocks n l h)=_∧_
   rw[BH 16 (x::m) _ (by rw[hl];omega),cj,cj]
   obtain⟨r1,r2⟩:=sm jJ s (gv 16 (x::m)) hs (pY hb) (my _ _)
   rw[r1,Ec hs r2]
   exact sn q n _ _ (by omega) (by rw[List.length_drop,hl];omega) (fun y hy=>hb y (List.mem_of_mem_drop hy)) (vQ s _)
theorem tS{α:Type}:∀(l m:List α),AO l m=l++m
 |[],m=>rfl
 |a::l,m=>by show a::AO l m=_;rw[tS l m];rfl
theorem vR:∀(n:Nat)(l:List Nat),cD n l=List.replicate n 0++l
 |0,l=>rfl
 |n+1,l=>by show 0::cD n l=_;rw[vR n l];rfl
def nG:Nat→Nat→List Nat
 |0,_=>[]
 |n+1,x=>nG n (x >>> 8)++[x % 256]
theorem kL:∀(n x:Nat)(l:List Nat),l6 n x l=nG n x++l
 |0,x,l=>rfl
 |
  n+1,x,l=>by
  show(fN (Nat.mod x 256) fun y=>fN (Nat.shiftRight x 8) fun z=>l6 n z (y::l))=_
  rw[cj,cj,kL n]
  show nG n (x >>> 8)++((x % 256)::l)=nG n (x >>> 8)++[x % 256]++l
  rw[List.append_assoc];rfl
def tT(l:List Nat):List Nat:=l++(128::(List.replicate (63 -(l.length+8) % 64) 0++nG 8 (8*l.length)))
theorem IQ(l:List Nat):pad l=tT l:=by
 show(fN (lf l) fun n=>AO l (128::cD (Nat.sub 63 (Nat.mod (Nat.add n 8) 64)) (l6 8 (Nat.mul 8 n) [])))=_
 rw[cj,gn,tS,vR,kL,List.append_nil]
 rfl
theorem vS:∀n x,(nG n x).length=n
 |0,_=>rfl
 |n+1,x=>by simp[nG,vS n]
theorem pZ:∀n x,yW (nG n x)
 |0,_=>fun y hy=>by cases hy
 |
  n+1,x=>fun y hy=>by
  rcases List.mem_append.1 hy with h|h
  ·exact pZ n _ y h
  ·have:y=x % 256:=List.mem_singleton.1 h
   subst this;exact Nat.mod_lt _ (by decide)
theorem vT(l:List Nat):(tT l).length=64*((l.length+72) / 64):=by
 simp only[tT,List.length_append,List.length_cons,List.length_replicate,vS]
 omega
theorem vU{l:List Nat}(h:yW l):yW (tT l):=by
 intro x hx
 rcases List.mem_append.1 hx with hx|hx
 ·exact h x hx
 ·rcases List.mem_cons.1 hx with rfl|hx
  ·decide
  ·rcases List.mem_append.1 hx with hx|hx
   ·have:x=0:=List.eq_of_mem_replicate hx
    omega
   ·exact pZ _ _ x hx
def Kt(w:Nat):List Nat:=nG 4 w
theorem BI:∀(l:List Nat),cM l→Ki l.length (pk l)=(l.map Kt).flatten
 |[],_=>rfl
 |
  a::l,h=>by
  show l6 4 (wd (pk (a::l)) 0) (Ki l.length ((pk (a::l)) >>> 32))=_
  have e1:(pk (a::l)) >>> 32=pk l:=by
   rw[Nat.shiftRight_eq_div_pow];exact nF [a] l (cM.cons h.head cN)
  rw[e1,BI l h.tail,kL,show wd (pk (a::l)) 0=a from iy [] l a cN h.head]
  rfl
def H0:S8:=⟨1779033703,3144134277,1013904242,2773480762,1359893119,2600822924,528734635,1541459225⟩
def Ku(l:List Nat):List Nat:=((Ax ((l.length+72) / 64) H0 (tT l)).l.map Kt).flatten
theorem BJ:cM H0.l:=by
 intro x hx
 simp only[S8.l,H0,List.mem_cons,List.not_mem_nil,or_false] at hx
 rcases hx with rfl|rfl|rfl|rfl|rfl|rfl|rfl|rfl<;>decide
theorem IS{l d:List Nat}(hb:yW l)(hl:l.length≤60000)(h:EE l=some d):d=Ku l:=by
 have e:(41557658498906279274860226408925318911382702236748615442085426012007055353447:Nat)=pk H0.l:=by decide
 obtain⟨r,h1,h2⟩:=aa (show(bO (blocks 1000 (pad l) 41557658498906279274860226408925318911382702236748615442085426012007055353447) fun r=>some (Ki 8 r))=some d from h)
 rw[e,IQ] at h1
 obtain⟨g1,g2⟩:=sn ((l.length+72) / 64) 1000 H0 (tT l) (by omega) (vT l) (vU hb) BJ
 rw[g1] at h1
 cases h1
 cases h2
 exact BI (Ax ((l.length+72) / 64) H0 (tT l)).l g2
end Go.Cm
namespace Go.Cm
def PL(gl:List V)(w:World):Prop:=
 ∀g x,eK gl g=some x→∃l cs e fz,x= .agg l∧w.heap[g]? =some (.cells cs e fz)∧(∃xs ys,cs.toList=xs++ys∧∀E,aH E l xs)∧l.bK=true
section
variable{P:Program} {gl:List V} {C:Abs.Ctx}
theorem xO(hmd:¬C.md)(hB:∀(E:Abs.Env) w,Abs.rZ C E w→PL gl w){f:FuncId}{b:Bool}{R0:T aj}{RY:Id}(h:dz P gl f .nil .e [] (.b b) R0 RY)(H:List (Option Abs.aj)):Abs.Fc P C f [] H (.ret (.val .bool b)) H:=by
 obtain⟨h1,h2,h3⟩:=h
 refine⟨h1,?_⟩
 intro E w vs hv hw
 have hvs:vs= []:=by
  cases vs with
  |nil=>rfl
  |cons _ _=>exact hv.elim
 subst hvs
 have:=h3 (num RY) E0 w [] (Nat.le_refl _) (by simp[aH]) Ko Bz (fun g y hy=>⟨vL,hB E w hw.gl g y hy⟩)
 refine callsIn_wide.1 (CallsIn.mono (F:=Fence.wide) this ?_)
 rintro e w' ⟨u,E',rfl,q1,q2,q3,q4⟩
 have hk:∀g,g<w.heap.size→w'.heap[g]? =w.heap[g]? :=fun g hg=>q4.kept g hg vL
 have kp:Abs.bm E w E w':=⟨fun b hb=>hk b (hw.slt b hb),fun _ h=>h⟩
 have lt:∀b k g,H[b]? =some (some k)→E.g b=some g→g<w.heap.size→w'.heap[g]? =w.heap[g]? :=fun b k g _ _ hg=>hk g hg
 have same:∀(b:Nat)(k:Abs.aj),H[b]? =some (some k)→∀g,E.g b=some g→w'.heap[g]? =w.heap[g]? :=by
  intro b k hb g hg
  by_cases Sg:g<w.heap.size
  ·exact hk g Sg
  ·have hB:=hw.bh b k hb
   exfalso
   have some_at:∀{o:Obj},w.heap[g]? =some o→False:=fun h=>Sg (Array.getElem?_eq_some_iff.1 h).1
   cases k with
   |var t v=>obtain⟨_,_,g',c,e,h3,h4,_⟩:=hB;rw[hg] at h3;cases h3;exact some_at h4
   |
    row e bs t xs=>
    obtain⟨_,_,_,_,a,cap,_,_,h5⟩:=hB
    rcases h5 with⟨_,h6,_⟩|⟨g',c,h6,_,h7,_⟩
    ·rw[hg] at h6;cases h6
    ·rw[hg] at h6;cases h6;exact some_at h7
   |map k v es=>obtain⟨_,_,g',en,cl,h3,h4,_⟩:=hB;rw[hg] at h3;cases h3;exact some_at h4
   |lp l r=>obtain⟨h3,h4⟩:=hB;rw[hg] at h3;cases h3;exact some_at h4
   |wE=>obtain⟨g',h3,h4⟩:=hB;rw[hg] at h3;cases h3;exact some_at h4
   |tv g' t v=>obtain⟨h3,_,_,c,e,h4,_⟩:=hB;rw[hg] at h3;cases h3;exact some_at h4
 simp only[RV] at q1
 subst q1
 refine⟨E,?_,⟨fun b k hb=>Abs.RB.mono kp (fun _ _=>⟨rfl,rfl,rfl⟩) (same b k hb) (hw.bh b k hb),hw.sep,hw.fo,fun g hg=>Nat.lt_of_lt_of_le (hw.slt g hg) q4.size,hw.ik kp⟩,⟨q4.os,⟨q4.tape,fun m=>absurd m hmd⟩,q4.output,q4.size,fun g hg _=>hk g hg,fun _ h=>h,fun _ h=>Or.inl h,fun _ h=>Or.inl h,fun _ _=>⟨rfl,rfl,rfl⟩⟩⟩
 exact Or.inr ⟨rfl,rfl⟩
theorem p8{w:World}{S:Nat→Prop}:∀{s:List Nat},(∀x∈s,x<256)→Abs.aC (Abs.Rel w S (.int .u8)) (s.map (fun n:Nat=>Value.int .u8 (Int.ofNat n))) (s.map Int.ofNat)
 |[],_=>rfl
 |
  a::s,h=>by
  have ha:=h a (List.mem_cons_self ..)
  refine⟨[.int .u8 (Int.ofNat a)],s.map (fun n:Nat=>Value.int .u8 (Int.ofNat n)),rfl,⟨rfl,?_,?_⟩,p8 (fun x hx=>h x (List.mem_cons_of_mem _ hx))⟩
  ·show(0:Int)≤Int.ofNat a
   exact Int.natCast_nonneg a
  ·show Int.ofNat a≤255
   have:(a:Int)≤255:=by omega
   exact this
theorem xP{E:Env}{hp:T aj}{w:World}(hH:RH E hp w){b:Id}{k:aj}(hk:get b hp=some k){l:V}{e:TypeId}(hke:k= .c l e∨k= .u l e){g:Nat}(hg:E.g b=some g){o n:Nat}{c:V}(hc:bY o n l=some c):
 g<w.heap.size∧∃cs:List Value,cs.length=n∧aH E c cs∧Abs.lj w ⟨g,o,none⟩ cs:=by
 obtain⟨g',ob,e1,e2,e3⟩:=hH.bh b k hk
 rw[hg] at e1;cases e1
 obtain⟨cs,fz,xs,ys,rfl,q1,q2,q3,q4,q5,_⟩:=RB.cells hke e3
 obtain⟨n1,n2,n3⟩:=gX q2 hc
 refine⟨(Array.getElem?_eq_some_iff.1 e2).1,(xs.drop o).take n,by simp;omega,n2,?_⟩
 intro j v hj
 rw[List.getElem?_take] at hj
 split at hj
 ·rename_i hjn
  rw[List.getElem?_drop] at hj
  rw[dZ,kT e2,←Array.getElem?_toList,q1,List.getElem?_append_left (by omega)]
  exact hj
 ·cases hj
theorem iz{E:Env}{hp:T aj}{w:World}(hH:RH E hp w){a:V}{u:Value}(hu:RV E a u){α:Type}{f:List Nat→Option α}{y:α}(hcap:Cz a=true)(h:wz (fun b=>get b hp) a f=some y):
 ∃s,f s=some y∧(∀x∈s,x<256)∧(s.length≤Abs.az→Abs.Rel w (fun g=>g<w.heap.size) (.slice 1 (.int .u8)) [u] (s.map Int.ofNat)):=by
 have row:∀(b:Id)(o n cap g:Nat),n≤cap→E.g b=some g→u= .slice (some ⟨g,o,none⟩) n cap→(bO (get b hp) fun k=>k.cells fun l=>bO (bY o n l) fun c=>bO (bytesOf c) f)=some y→
  ∃s,f s=some y∧(∀x∈s,x<256)∧(s.length≤Abs.az→Abs.Rel w (fun g=>g<w.heap.size) (.slice 1 (.int .u8)) [u] (s.map Int.ofNat)):=by
  intro b o n cap g hnc hg hu h
  obtain⟨k,hk,h1⟩:=aa h
  obtain⟨l,e,hke,h2⟩:=bG h1
  obtain⟨c,hc,h3⟩:=aa h2
  obtain⟨s,hs,h4⟩:=aa h3
  obtain⟨Sg,cs,c1,c2,c3⟩:=xP hH hk hke hg hc
  obtain⟨b1,b2⟩:=qQ c2 hs
  have hsl:s.length=n:=by rw[←c1,b2];simp
  refine⟨s,h4,b1,fun hm=>?_⟩
  subst hu
  refine⟨some ⟨g,o,none⟩,cap,by simp[hsl],by simp;omega,by simp;omega,by simp;omega,Or.inr ⟨g,o,cs,rfl,Sg,c3,?_⟩⟩
  rw[b2]
  exact p8 b1
 unfold wz at h
 cases hse:a.rp with
 |
  true=>
  rw[hse] at h
  have:=kS hse
  subst this
  simp only[RV] at hu
  obtain⟨a',c,rfl⟩:=hu
  exact⟨[],h,by simp,fun _=>⟨some a',c,rfl,Nat.zero_le _,by simp,by simp,Or.inl rfl⟩⟩
 |
  false=>
  rw[hse] at h
  rcases cu h with⟨b,o,n,c,rfl,h1⟩|⟨b,o,n,z,rfl,h1⟩|⟨rfl,h1⟩
  ·simp only[RV] at hu
   obtain⟨g,hg,rfl⟩:=hu
   exact row b o n c g (Nat.le_of_ble_eq_true hcap) hg rfl h1
  ·simp only[RV] at hu
   obtain⟨g,c,hg,rfl,hc,_⟩:=hu
   exact row b o n c g hc hg rfl h1
  ·simp only[RV] at hu
   subst hu
   exact⟨[],h1,by simp,fun _=>⟨none,0,rfl,Nat.zero_le _,by simp,by simp,Or.inl rfl⟩⟩
theorem BK{E:Env}{hp:T aj}{w:World}(hH:RH E hp w):∀{c:V}{us:List Value}{s:List Nat},aH E c us→CA hp c=some s→s.length≤60000→
 ∃ps:List (List Nat),ps.flatten=s∧ps.length=us.length∧(∀p∈ps,∀x∈p,x<256)∧Abs.aC (Abs.Rel w (fun g=>g<w.heap.size) (.slice 1 (.int .u8))) us (ps.map (·.map Int.ofNat)):=by
 intro c
 induction c with
 |
  nil=>
  intro us s h k _
  rw[aH.bL] at h;subst h
  cases(show some []=some s from k)
  exact⟨[],rfl,rfl,by simp,rfl⟩
 |
  cons a l _ ih=>
  intro us s h k hl
  obtain⟨u,r,rfl,h1,h2⟩:=aH.aw.1 h
  obtain⟨hcap,k1⟩:=ah (show bf (Cz a) (wz (fun b=>get b hp) a fun x=>bO (CA hp l) fun r=>some (AO x r))=some s from k)
  obtain⟨p,k2,p1,p2⟩:=iz hH h1 hcap k1
  obtain⟨t,t1,t2⟩:=aa k2
  cases t2
  rw[tS] at hl ⊢
  rw[List.length_append] at hl
  obtain⟨ps,q1,q2,q3,q4⟩:=ih h2 t1 (by omega)
  refine⟨p::ps,by simp[q1],by simp[q2],?_,[u],r,rfl,p2 (by have:Abs.az=140737488355328:=rfl;omega),q4⟩
  intro q hq
  rcases List.mem_cons.1 hq with rfl|hq
  ·exact p1
  ·exact q3 q hq
 |_=>intro us s h;simp[aH] at h
theorem Ay{w:World}{S:Nat→Prop}{n:Nat}{cs:List Value}{d:List Nat}(h:Abs.Rel w S (.arr n (.int .u8)) cs (d.map Int.ofNat)):cs=d.map (fun n:Nat=>Value.int .u8 (Int.ofNat n)):=by
 obtain⟨_,h⟩:=h
 have key:∀(d:List Nat)(cs:List Value),Abs.aC (Abs.Rel w S (.int .u8)) cs (d.map Int.ofNat)→cs=d.map (fun n:Nat=>Value.int .u8 (Int.ofNat n)):=by
  intro d
  induction d with
  |nil=>intro cs h;exact h
  |
   cons a d ih=>
   intro cs h
   obtain⟨v1,v2,rfl,⟨h1,_⟩,h2⟩:=h
   rw[h1,ih v2 h2];rfl
 exact key d cs h
theorem xQ{hfn:Nat}{H H':List (Option Abs.aj)}(hH0:∀(b:Nat)(k:Abs.aj),H[b]? ≠some (some k))(hC:∀(E:Env)(hp:T aj)(w:World),GL gl hp E w→Abs.rZ C (Abs.er w) w)
 (hfc:∀(ps:List (List Nat))(d:List Nat),ps.length≤1000→ps.flatten.length≤60000→(∀p∈ps,∀x∈p,x<256)→EE ps.flatten=some d→Abs.Fc P C hfn [.val (.slice 24 (.slice 1 (.int .u8))) (ps.map (·.map Int.ofNat))] H (.ret (.val (.arr 32 (.int .u8)) (d.map Int.ofNat))) H')
 (hent:∀vs w,(callFunc hfn vs).run P w= .ok (.enter hfn vs) w) (hby:∀s d,EE s=some d→∀x∈d,x<256):
 ∀args hp v,sZ hp args=some v→∀nx,dz P gl hfn args hp nx v hp nx:=by
 intro args hp v hv nx
 refine⟨hent,Nat.le_refl _,?_⟩
 intro L E w vs _ hvs hH hF hG
 have main:∃(u:Value)(ps:List (List Nat))(d:List Nat),vs= [u]∧ps.length≤1000∧ps.flatten.length≤60000∧(∀p∈ps,∀x∈p,x<256)∧EE ps.flatten=some d∧v= .agg (lg d)∧Abs.Rel w (fun g=>g<w.heap.size) (.slice 24 (.slice 1 (.int .u8))) [u] (ps.map (·.map Int.ofNat)):=by
  obtain⟨x,r,rfl,h1⟩:=bq hv
  rcases bF h1 with⟨rfl,h2⟩|⟨_,_,_,h2⟩
  ·obtain⟨u,us,rfl,u1,u2⟩:=aH.aw.1 hvs
   rw[aH.bL] at u2;subst u2
   have row:∀(b:Id)(o n cap g:Nat),n≤cap→E.g b=some g→u= .slice (some ⟨g,o,none⟩) n cap→CC hp b o n=some v→∃(u':Value)(ps:List (List Nat))(d:List Nat),[u]= [u']∧ps.length≤1000∧ps.flatten.length≤60000∧(∀p∈ps,∀x∈p,x<256)∧EE ps.flatten=some d∧v= .agg (lg d)∧Abs.Rel w (fun g=>g<w.heap.size) (.slice 24 (.slice 1 (.int .u8))) [u'] (ps.map (·.map Int.ofNat)):=by
    intro b o n cap g hnc hg hu h
    obtain⟨hn,g1⟩:=ah h
    obtain⟨k,hk,g2⟩:=aa g1
    obtain⟨l,e,hke,g3⟩:=bG g2
    obtain⟨c,hc,g4⟩:=aa g3
    obtain⟨s,hs,g5⟩:=aa g4
    obtain⟨hl,g6⟩:=ah g5
    obtain⟨d,hd,g7⟩:=aa g6
    rw[kF] at g7
    cases g7
    rw[gn] at hl
    obtain⟨Sg,cs,c1,c2,c3⟩:=xP hH hk hke hg hc
    obtain⟨ps,p1,p2,p3,p4⟩:=BK hH c2 hs (Nat.le_of_ble_eq_true hl)
    have hn:=Nat.le_of_ble_eq_true hn
    have hmx:Abs.az=140737488355328:=rfl
    have hpl:(ps.map (·.map Int.ofNat)).length=n:=by simp[p2,c1]
    subst hu
    refine⟨_,ps,d,rfl,by omega,by rw[p1];exact Nat.le_of_ble_eq_true hl,p3,by rw[p1];exact hd,rfl,some ⟨g,o,none⟩,cap,by rw[hpl],by rw[hpl];exact hnc,by rw[hpl];omega,by rw[hpl];omega,Or.inr ⟨g,o,cs,rfl,Sg,c3,p4⟩⟩
   rcases cu h2 with⟨b,o,n,c,rfl,h3⟩|⟨b,o,n,z,rfl,h3⟩|⟨rfl,h3⟩
   ·simp only[RV] at u1
    obtain⟨g,hg,rfl⟩:=u1
    obtain⟨hnc,h4⟩:=ah h3
    exact row b o n c g (Nat.le_of_ble_eq_true hnc) hg rfl h4
   ·simp only[RV] at u1
    obtain⟨g,c,hg,rfl,hc,_⟩:=u1
    exact row b o n c g hc hg rfl h3
   ·simp only[RV] at u1
    subst u1
    obtain⟨d,hd,h4⟩:=aa h3
    rw[kF] at h4
    cases h4
    exact⟨_,[],d,rfl,by simp,by simp,by simp,by simpa using hd,rfl,none,0,rfl,Nat.zero_le _,by simp,by simp,Or.inl rfl⟩
  ·cases h2
 obtain⟨u,ps,d,rfl,m1,m2,m3,m4,rfl,m5⟩:=main
 have hx:=(hfc ps d m1 m2 m3 m4).2 (Abs.er w) w [u] ⟨by
  show Abs.cZ _ _ _ _
  exact Or.inr ⟨rfl,m5⟩,trivial⟩ ⟨fun b k hb=>absurd hb (hH0 b k),fun b b' k k' g hb=>absurd hb (hH0 b k),fun b k g hb=>absurd hb (hH0 b k),fun g hg=>hg,hC E hp w hG⟩
 refine CallsIn.mono (F:=Fence.wide) (callsIn_wide.2 hx) ?_
 rintro e w' ⟨E',r1,r2,r3⟩
 have no:∀g,¬Abs.Own H (Abs.er w) g:=fun g ⟨b,k,hb,_⟩=>hH0 b k hb
 have hk:∀g,g<w.heap.size→w'.heap[g]? =w.heap[g]? :=fun g hg=>r3.kept g hg (no g)
 cases e with
 |
  returned v'=>
  have r1:Abs.cZ E' w' (.val (.arr 32 (.int .u8)) (d.map Int.ofNat)) v':=r1
  rcases r1 with⟨_,cs,rfl,hc⟩|⟨hc,_⟩
  ·have hc:Abs.Rel w' E'.S (.arr 32 (.int .u8)) cs.toList (d.map Int.ofNat):=hc
   have hcs:=Ay hc
   refine⟨_,E,rfl,?_,⟨fun b k hb=>?_,hH.sep⟩,hF,⟨r3.os,r3.tape.1,r3.output,r3.size,fun g hg _=>hk g hg,fun g hg=>Or.inl hg,Nat.le_refl _,fun _ _=>⟨rfl,rfl⟩⟩⟩
   ·simp only[RV]
    obtain⟨s1,s2⟩:=pI (E:=E) (hby _ _ m4)
    refine⟨cs,rfl,?_,s2⟩
    rw[hcs]
    have:d.map (fun n:Nat=>Value.int .u8 (Int.ofNat n))=d.map fun b=>Value.int .u8 ((UInt8.ofNat b).toNat:Int):=by
     apply List.map_congr_left
     intro x hx
     have:=hby _ _ m4 x hx
     rw[UInt8.toNat_ofNat_of_lt' (by simpa using this)];rfl
    rw[this];exact s1
   ·obtain⟨g,o,q1,q2,q3⟩:=hH.bh b k hb
    exact⟨g,o,q1,by rw[hk g (Array.getElem?_eq_some_iff.1 q2).1];exact q2,q3⟩
  ·cases hc
 |_=>exact r1.elim
theorem Ef{s d:List Nat}(h:EE s=some d):∀x∈d,x<256:=by
 obtain⟨r,h1,h2⟩:=aa h
 cases h2
 have key:∀n x,yW (Ki n x):=by
  intro n
  induction n with
  |zero=>intro x y hy;cases hy
  |
   succ n ih=>
   intro x
   show yW (l6 4 (wd x 0) (Ki n (x >>> 32)))
   rw[kL]
   intro y hy
   rcases List.mem_append.1 hy with hy|hy
   ·exact pZ _ _ y hy
   ·exact ih _ y hy
 exact key 8 r
noncomputable def xR(k:IntKind)(zs:List Int):V:=@List.rec Int (fun _=>V) .nil (fun z _ ih=>.cons (.i k z) ih) zs
theorem BL{E:Env}{k:IntKind}:∀{zs:List Int}{vs:List Value},aH E (xR k zs) vs→vs=zs.map (Value.int k)
 |[],vs,h=>aH.bL.1 h
 |
  z::zs,vs,h=>by
  obtain⟨v,r,rfl,a,b⟩:=aH.aw.1 (show aH E (.cons (.i k z) (xR k zs)) vs from h)
  simp only[RV] at a
  rw[a,BL b];rfl
theorem tU{E:Env}{k:IntKind}:∀(zs:List Int),aH E (xR k zs) (zs.map (Value.int k))∧(xR k zs).bK=true
 |[]=>⟨aH.bL.2 rfl,rfl⟩
 |
  z::zs=>by
  obtain⟨h1,h2⟩:=tU (E:=E) (k:=k) zs
  refine⟨aH.aw.2 ⟨_,_,rfl,by simp only[RV],h1⟩,?_⟩
  show(V.one _&&(xR k zs).bK)=true
  rw[h2];rfl
theorem Eg{E:Env}{hp:T aj}{w:World}(hG:GL gl hp E w){g:Nat}{k:IntKind}{zs:List Int}(hg:eK gl g=some (.agg (xR k zs))):∀i,i<zs.length→w.cell? ⟨g,i,none⟩=some (.int k (zs.getD i 0)):=by
 intro i hi
 obtain⟨_,l,cs,e,fz,h1,h2,⟨xs,ys,h5,h3⟩,h4⟩:=hG g _ hg
 cases h1
 have hcs:=BL (h3 E)
 rw[kT h2,←Array.getElem?_toList,h5,hcs,List.getElem?_append_left (by simpa using hi)]
 simp[hi,List.getD_eq_getElem?_getD]
theorem xS{E:Env}{hp:T aj}{w:World}(hG:GL gl hp E w){g n:Nat}{k:IntKind}{zs:List Int}(hg:eK gl g=some (.agg (xR k zs)))(h0:0<zs.length)(hn:zs.length=n)(hr:∀z∈zs,k.min≤z∧z≤k.max):
 (Abs.er w).S g∧∃cs,Abs.lj w ⟨g,0,none⟩ cs∧Abs.Rel w (Abs.er w).S (.arr n (.int k)) cs zs:=
 Abs.zT h0 (Eg hG hg) hn hr
theorem tV{w:World}{g:Nat}{xs:List Value}(h0:0<xs.length)(h:Abs.lj w ⟨g,0,none⟩ xs):∃cs e fz ys,w.heap[g]? =some (.cells cs e fz)∧cs.toList=xs++ys:=by
 have h1:=h 0 xs[0] (by simp[h0])
 rw[dZ] at h1
 unfold World.cell? at h1
 split at h1
 ·rename_i cs e fz hh
  refine⟨cs,e,fz,cs.toList.drop xs.length,hh,?_⟩
  have pre:∀(j:Nat)(v:Value),xs[j]? =some v→cs.toList[j]? =some v:=by
   intro j v hj
   have:=h j v hj
   rw[dZ,Nat.zero_add,kT hh] at this
   simpa using this
  have hl:xs.length≤cs.toList.length:=by
   rcases Nat.lt_or_ge cs.toList.length xs.length with Sg|hge
   ·have:=pre (xs.length -1) xs[xs.length -1] (by simp)
    have:=(List.getElem?_eq_some_iff.1 this).1
    omega
   ·exact hge
  have:xs=cs.toList.take xs.length:=by
   apply List.ext_getElem?
   intro j
   rw[List.getElem?_take]
   split
   ·rename_i hj
    rw[pre j xs[j] (by simp[hj])]
    simp[hj]
   ·rename_i hj
    exact List.getElem?_eq_none (by omega)
  conv=>lhs;rw[←List.take_append_drop xs.length cs.toList]
  rw[←this]
 ·cases h1
theorem IT{w:World}{S:Nat→Prop}{g n:Nat}{k:IntKind}{zs:List Int}(h0:0<zs.length)(h:∃cs,Abs.lj w ⟨g,0,none⟩ cs∧Abs.Rel w S (.arr n (.int k)) cs zs):∃l cs e fz,V.agg (xR k zs)= .agg l∧w.heap[g]? =some (.cells cs e fz)∧(∃xs ys,cs.toList=xs++ys∧∀E,aH E l xs)∧l.bK=true:=by
 obtain⟨cs,h1,_,h2⟩:=h
 have key:∀(zs:List Int)(cs:List Value),Abs.aC (Abs.Rel w S (.int k)) cs zs→cs=zs.map (Value.int k):=by
  intro zs
  induction zs with
  |nil=>intro cs h;exact h
  |
   cons a d ih=>
   intro cs h
   obtain⟨v1,v2,rfl,⟨h1,_⟩,h2⟩:=h
   rw[h1,ih v2 h2];rfl
 have:=key zs cs h2
 subst this
 obtain⟨c,e,fz,ys,q1,q2⟩:=tV (by simpa using h0) h1
 exact⟨_,c,e,fz,rfl,q1,⟨_,ys,q2,fun E=>(tU zs).1⟩,(tU (E:=E0) zs).2⟩
end
end Go.Cm
namespace Go.Cm
section
variable{L:Nat} {E:Env} {w:World}
theorem RH.later{hp:T aj}(nx:Id)(h:RH E hp w)(w':World)(hk:∀g,g<w.heap.size→w'.heap[g]? =w.heap[g]?)(ho:w'.os=w.os)(ht:Tp w w')(hu:w'.output=w.output)(hs:w.heap.size≤w'.heap.size):
 RH E hp w'∧Ex hp nx E w hp nx E w':=by
 refine⟨⟨fun b k hb=>?_,h.sep⟩,ho,ht,hu,hs,fun g hg _=>hk g hg,fun g hg=>Or.inl hg,Nat.le_refl _,fun _ _=>⟨rfl,rfl⟩⟩
 obtain⟨g,o,h1,h2,h3⟩:=h.bh b k hb
 exact⟨g,o,h1,by rw[hk g (Array.getElem?_eq_some_iff.1 h2).1];exact h2,h3⟩
theorem RH.FX{KW hp:T aj}{N4 nx:Id}{E0:Env}{w0:World}(h:RH E hp w)(hf:bI L nx E)(hL:num nx<L)(X:Ex KW N4 E0 w0 hp nx E w){g:Nat}{o:Obj}(ho:w.heap[g]? =some o)(hg0:w0.heap.size≤g)(hno:¬Own hp E g){k:aj}{n:Nat}
 (E':Env) (hE:E'=⟨fun b=>if b=nx then some g else E.g b,fun b=>if b=nx then n else E.n b⟩) (hk:RB E' nx k o):
 RH E' (put (some k) nx hp) w∧bI L (jR nx) E'∧Ex KW N4 E0 w0 (put (some k) nx hp) (jR nx) E' w∧E.le E'∧E'.g nx=some g:=by
 have hle:E.le E':=by
  intro b g hb
  have R7:b≠nx:=fun e=>by subst e;rw[hf b (Nat.le_refl _) hL] at hb;cases hb
  subst hE
  exact⟨by simp only[if_neg R7];exact hb,by simp only[if_neg R7]⟩
 have SG:E'.g nx=some g:=by subst hE;simp
 have hold:∀b,b≠nx→E'.g b=E.g b∧E'.n b=E.n b:=fun b hb=>by subst hE;simp[hb]
 refine⟨⟨?_,?_⟩,?_,⟨X.os,X.tape,X.output,X.size,X.kept,?_,by rw[bk];exact Nat.le_succ_of_le X.DT,?_⟩,hle,SG⟩
 ·intro b k' hb
  rw[bJ] at hb
  split at hb
  ·rename_i e;subst e;cases hb
   exact⟨g,o,SG,ho,hk⟩
  ·rename_i R7
   obtain⟨g',o',h1,h2,h3⟩:=h.bh b k' hb
   exact⟨g',o',(hle b g' h1).1,h2,h3.mono hle (hold b R7).2⟩
 ·intro b b' k1 k2 g' hb Sb g1 g2
  rw[bJ] at hb Sb
  split at hb
  ·rename_i e;subst e
   rw[SG] at g1;cases g1
   split at Sb
   ·rename_i e';exact e'.symm
   ·rename_i R7
    rw[(hold b' R7).1] at g2
    exact absurd ⟨b',k2,Sb,g2⟩ hno
  ·rename_i R7
   rw[(hold b R7).1] at g1
   split at Sb
   ·rename_i e';subst e'
    rw[SG] at g2;cases g2
    exact absurd ⟨b,k1,hb,g1⟩ hno
   ·rename_i hne'
    rw[(hold b' hne').1] at g2
    exact h.sep b b' k1 k2 g' hb Sb g1 g2
 ·intro b h1 h2
  rw[bk] at h1
  have R7:b≠nx:=fun e=>by subst e;omega
  rw[(hold b R7).1]
  exact hf b (by omega) h2
 ·rintro g' ⟨b,k',hb,hg⟩
  rw[bJ] at hb
  split at hb
  ·rename_i e;subst e;rw[SG] at hg;cases hg;exact Or.inr hg0
  ·rename_i R7;rw[(hold b R7).1] at hg;exact X.own g' ⟨b,k',hb,hg⟩
 ·intro b hb
  rw[bk] at hb
  have hn:=X.DT
  have R7:b≠nx:=fun e=>by subst e;omega
  obtain⟨a1,a2⟩:=X.env b (by omega)
  exact⟨(hold b R7).1.trans a1,(hold b R7).2.trans a2⟩
end
def Kv{α:Type}(f:V→Option (α×V)):Nat→V→Option (List α×V)
 |0,l=>some ([],l)
 |n+1,l=>(f l).bind fun x=>(Kv f n x.2).bind fun y=>some (x.1::y.1,y.2)
def FY:(t:Abs.Ty)→V→Option (t.den×V)
 | .int k,.cons (.i k' n) r=>if k'=k∧k.min≤n∧n≤k.max then some (n,r) else none
 | .bool,.cons (.b x) r=>some (x,r)
 | .arr n t,l=>Kv (FY t) n l
 | .pair a b,l=>(FY a l).bind fun x=>(FY b x.2).bind fun y=>some ((x.1,y.1),y.2)
 | .unit,l=>some ((),l)
 | .slice _ _,.cons .ns r=>some ([],r)
 |_,_=>none
theorem xT{α:Type}{E:Env}{R:List Value→α→Prop}{f:V→Option (α×V)}(hf:∀l x r us,f l=some (x,r)→aH E l us→∃u1 u2,us=u1++u2∧R u1 x∧aH E r u2):
 ∀n l x r us,Kv f n l=some (x,r)→aH E l us→x.length=n∧∃u1 u2,us=u1++u2∧Abs.aC R u1 x∧aH E r u2
 |
  0,l,x,r,us,h,hu=>by
  cases h
  exact⟨rfl,[],us,rfl,rfl,hu⟩
 |
  n+1,l,x,r,us,h,hu=>by
  obtain⟨y,h1,h2⟩:=Option.bind_eq_some_iff.1 h
  obtain⟨z,h3,h4⟩:=Option.bind_eq_some_iff.1 h2
  cases h4
  obtain⟨u1,u2,rfl,a1,a2⟩:=hf l y.1 y.2 us h1 hu
  obtain⟨e,v1,v2,rfl,b1,b2⟩:=xT hf n y.2 z.1 z.2 u2 h3 a2
  exact⟨by simp[e],u1++v1,v2,by simp,⟨u1,v1,rfl,a1,b1⟩,b2⟩
theorem tW{E:Env}{w:World}{S:Nat→Prop}:∀(t:Abs.Ty)(l:V)(x:t.den)(r:V)(us:List Value),FY t l=some (x,r)→aH E l us→∃u1 u2,us=u1++u2∧Abs.Rel w S t u1 x∧aH E r u2
 |
  .int k,l,x,r,us,h,hu=>by
  match l,h with
  |
   .cons (.i k' n) r',h=>
   have h:(if k'=k∧k.min≤n∧n≤k.max then some (n,r') else none)=some (x,r):=h
   split at h
   ·rename_i hc
    cases h
    obtain⟨v,vs,rfl,a1,a2⟩:=aH.aw.1 hu
    simp only[RV] at a1
    rw[hc.1] at a1
    exact⟨[v],vs,rfl,⟨by rw[a1],hc.2⟩,a2⟩
   ·cases h
 |
  .bool,l,x,r,us,h,hu=>by
  match l,h with
  |
   .cons (.b y) r',h=>
   cases h
   obtain⟨v,vs,rfl,a1,a2⟩:=aH.aw.1 hu
   simp only[RV] at a1
   exact⟨[v],vs,rfl,by rw[a1];rfl,a2⟩
 |
  .arr n t,l,x,r,us,h,hu=>by
  obtain⟨e,u1,u2,h1,h2,h3⟩:=xT (fun l x r us=>tW t l x r us) n l x r us h hu
  exact⟨u1,u2,h1,⟨e,h2⟩,h3⟩
 |
  .pair a b,l,x,r,us,h,hu=>by
  obtain⟨y,h1,h2⟩:=Option.bind_eq_some_iff.1 (show((FY a l).bind fun x=>(FY b x.2).bind fun y=>some ((x.1,y.1),y.2))=some (x,r) from h)
  obtain⟨z,h3,h4⟩:=Option.bind_eq_some_iff.1 h2
  cases h4
  obtain⟨u1,u2,rfl,a1,a2⟩:=tW a l y.1 y.2 us h1 hu
  obtain⟨v1,v2,rfl,b1,b2⟩:=tW b y.2 z.1 z.2 u2 h3 a2
  exact⟨u1++v1,v2,by simp,⟨u1,v1,rfl,a1,b1⟩,b2⟩
 |
  .unit,l,x,r,us,h,hu=>by
  cases h
  exact⟨[],us,rfl,rfl,hu⟩
 |
  .slice bs t,l,x,r,us,h,hu=>by
  match l,h with
  |
   .cons .ns r',h=>
   cases h
   obtain⟨v,vs,rfl,a1,a2⟩:=aH.aw.1 hu
   simp only[RV] at a1
   exact⟨[v],vs,rfl,⟨none,0,by rw[a1];rfl,Nat.zero_le _,by simp,by simp,Or.inl rfl⟩,a2⟩
 | .str,l,x,r,us,h,hu=>by cases l<;>cases h
 | .au _,l,x,r,us,h,hu=>by cases l<;>cases h
 | .fns _,l,x,r,us,h,hu=>by cases l<;>cases h
noncomputable def Kw(m n:Nat)(c:V)(ps ms:List Int)(e:TypeId)(args:V)(hp:T aj)(nx:Id):Option Xr:=
 args.split none (fun x r=>r.split (x.uT (fun b o n' cap=>bf (Nat.beq n' n) (bf (Nat.ble n' cap) (bO (get b hp) fun k=>k.cells fun l=>bO (bY o m l) fun c'=>bf (isTrue (fa c c'))
  (some (.mk (.bU (.cons (.su nx 0 (lf ps) 1) (.cons (.su (jR nx) 0 (lf ms) 1) .nil))) (put (some (.u (xR .i64 ms) e)) (jR nx) (put (some (.u (xR .i64 ps) e)) nx hp)) (jR (jR nx))))))) (fun _ _ _ _=>none) none) (fun _ _=>none) none) none
section
variable{P:Program} {gl:List V} {C:Abs.Ctx}
theorem Az{fX m n bs:Nat}{T:Abs.Ty}{xs:List T.den}{c:V}{ps ms:List Int}{e:TypeId}{X Y:Nat}{H H':List (Option Abs.aj)}(hH0:∀(b:Nat)(k:Abs.aj),H[b]? ≠some (some k))
 (hX:H'[X]? =some (some (.row e 8 (.int .i64) ps))) (hY:H'[Y]? =some (some (.row e 8 (.int .i64) ms))) (hXY:X≠Y) (hps:ps≠[]) (hms:ms≠[])
 (hC:∀(E:Env)(hp:Cm.T aj)(w:World),GL gl hp E w→Abs.rZ C (Abs.er w) w) (hrd:Kv (FY T) n c=some (xs,.nil)) (hn0:n≠0) (hnb:n*bs≤Abs.az) (hn:n≤Abs.az)
 (hfc:Abs.Fc P C fX [.val (.slice bs T) xs] H (.ret (.bU (.cons (.own X) (.cons (.own Y) .nil)))) H'):
 ∀args hp nx v R0 RY,Kw m n c ps ms e args hp nx=some (.mk v R0 RY)→dz P gl fX args hp nx v R0 RY:=by
 intro args hp nx v R0 RY hv
 obtain⟨x,r,rfl,h1⟩:=bq hv
 rcases bF h1 with⟨rfl,h2⟩|⟨_,_,_,h2⟩
 ·rcases cu h2 with⟨b,o,n',cap,rfl,h3⟩|⟨_,_,_,_,_,h3⟩|⟨_,h3⟩
  ·obtain⟨hn',h4⟩:=ah h3
   have:=bg hn';subst this
   obtain⟨hcap,h5⟩:=ah h4
   obtain⟨k,hk,h6⟩:=aa h5
   obtain⟨l,el,hke,h7⟩:=bG h6
   obtain⟨c',hc',h8⟩:=aa h7
   obtain⟨SB,h9⟩:=ah h8
   rw[gn,gn] at h9
   cases h9
   have hcc:c=c':=by
    refine iS c c' ?_
    cases hs:fa c c' with
    |none=>rw[hs] at SB;cases SB
    |
     some b=>cases b with
     |true=>rfl
     |false=>rw[hs] at SB;cases SB
   subst hcc
   refine⟨hfc.1,by rw[bk,bk];omega,?_⟩
   intro L E w vs hL hvs hH hF hG
   rw[bk,bk] at hL
   obtain⟨u,us,rfl,u1,u2⟩:=aH.aw.1 hvs
   rw[aH.bL] at u2;subst u2
   simp only[RV] at u1
   obtain⟨g,hg,rfl⟩:=u1
   obtain⟨Sg,cs,c1,c2,c3⟩:=xP hH hk hke hg hc'
   obtain⟨hxl,v1,v2,e1,e2,e3⟩:=xT (R:=Abs.Rel w (fun g=>g<w.heap.size) T) (fun l x r us=>tW T l x r us) n' c xs .nil cs hrd c2
   rw[aH.bL] at e3;subst e3
   rw[List.append_nil] at e1;subst e1
   have SO:Abs.Rel w (fun g=>g<w.heap.size) (.slice bs T) [.slice (some ⟨g,o,none⟩) n' cap] xs:=
    ⟨some ⟨g,o,none⟩,cap,by rw[hxl],by rw[hxl];exact Nat.le_of_ble_eq_true hcap,by rw[hxl];exact hnb,by rw[hxl];exact hn,Or.inr ⟨g,o,cs,rfl,Sg,c3,e2⟩⟩
   have hx:=hfc.2 (Abs.er w) w [.slice (some ⟨g,o,none⟩) n' cap] ⟨by
    show Abs.cZ _ _ _ _
    exact Or.inr ⟨rfl,SO⟩,trivial⟩ ⟨fun b k hb=>absurd hb (hH0 b k),fun b b' k k' g hb=>absurd hb (hH0 b k),fun b k g hb=>absurd hb (hH0 b k),fun g hg=>hg,hC E hp w hG⟩
   refine CallsIn.mono (F:=Fence.wide) (callsIn_wide.2 hx) ?_
   rintro en w' ⟨E',r1,r2,r3⟩
   have no:∀g,¬Abs.Own H (Abs.er w) g:=fun g ⟨b,k,hb,_⟩=>hH0 b k hb
   have hkp:∀g,g<w.heap.size→w'.heap[g]? =w.heap[g]? :=fun g hg=>r3.kept g hg (no g)
   cases en with
   |
    returned v'=>
    obtain⟨a,ra,r1⟩:∃a:Array Value,v'= .tuple a∧Abs.RT E' w' (.cons (.own X) (.cons (.own Y) .nil)) a.toList:=r1
    have row:∀(Z:Nat)(zs:List Int),zs≠[]→H'[Z]? =some (some (.row e 8 (.int .i64) zs))→∃(gz cz:Nat)(cells:Array Value),E'.g Z=some gz∧E'.sv Z= .slice (some ⟨gz,0,none⟩) zs.length cz∧w'.heap[gz]? =some (.cells cells e (0,0))∧cells.size=cz∧zs.length≤cz∧w.heap.size≤gz∧cells.toList.take zs.length=zs.map (Value.int .i64):=by
     intro Z zs hz hZ
     obtain⟨_,_,_,_,a',cap',s1,_,s2⟩:=r2.bh Z _ hZ
     rcases s2 with⟨_,_,s3⟩|⟨gz,cells,s3,s4,s5,s6,s7,s8⟩
     ·exact absurd s3 hz
     ·have ht:Abs.Ty.size (.int .i64)=1:=rfl
      rw[ht,Nat.mul_one] at s6 s8
      refine⟨gz,cap',cells,s3,by rw[s1,s4],s5,s6,s7,?_,?_⟩
      ·rcases r3.own gz ⟨Z,_,hZ,s3⟩ with q|q
       ·exact absurd q (no gz)
       ·exact q
      ·have ri:∀(zs:List Int)(vs:List Value),Abs.aC (Abs.Rel w' E'.S (.int .i64)) vs zs→vs=zs.map (Value.int .i64):=by
        intro zs
        induction zs with
        |nil=>intro vs h;exact h
        |
         cons z zs ih=>
         intro vs h
         obtain⟨w1,w2,rfl,⟨q1,_⟩,q2⟩:=h
         rw[q1,ih w2 q2];rfl
       exact ri zs _ s8
    obtain⟨g1,c1',ce1,p1,p2,p3,p4,p5,p6,p7⟩:=row X ps hps hX
    obtain⟨g2,c2',ce2,q1,q2,q3,q4,q5,q6,q7⟩:=row Y ms hms hY
    have R7:g1≠g2:=fun h=>hXY (r2.sep X Y _ _ g1 hX hY p1 (by rw[q1,h]))
    obtain⟨hH1,X1⟩:=hH.later nx w' hkp r3.os r3.tape.1 r3.output r3.size
    have no1:∀g,w.heap.size≤g→¬Own hp E g:=by
     rintro g hg ⟨b,k,hb,hbg⟩
     obtain⟨g',o',t1,t2,_⟩:=hH.bh b k hb
     rw[hbg] at t1;cases t1
     have:=(Array.getElem?_eq_some_iff.1 t2).1
     omega
    have rbu:∀(E2:Env)(b:Id)(cells:Array Value)(zs:List Int),cells.toList.take zs.length=zs.map (Value.int .i64)→E2.n b=cells.size→RB E2 b (.u (xR .i64 zs) e) (.cells cells e (0,0)):=by
     intro E2 b cells zs hz Sd
     obtain⟨t1,t2⟩:=tU (E:=E2) (k:=.i64) zs
     exact⟨cells,(0,0),zs.map (Value.int .i64),cells.toList.drop zs.length,rfl,by rw[←hz,List.take_append_drop],t1,t2,Or.inl rfl,Sd⟩
    obtain⟨hH2,F2,X2,le2,gn2⟩:=hH1.FX hF (by omega) X1 p3 p6 (no1 g1 p6) (k:=.u (xR .i64 ps) e) (n:=ce1.size) _ rfl (rbu _ _ _ _ p7 (by simp))
    have no2:¬Own (put (some (.u (xR .i64 ps) e)) nx hp) ⟨fun b=>if b=nx then some g1 else E.g b,fun b=>if b=nx then ce1.size else E.n b⟩ g2:=by
     rintro⟨b,k,hb,hbg⟩
     rw[bJ] at hb
     split at hb
     ·rename_i eb;subst eb;rw[gn2] at hbg;cases hbg;exact R7 rfl
     ·rename_i hnb
      have hbg:(if b=nx then some g1 else E.g b)=some g2:=hbg
      rw[if_neg hnb] at hbg
      exact no1 g2 q6 ⟨b,k,hb,hbg⟩
    obtain⟨hH3,F3,X3,le3,gn3⟩:=hH2.FX F2 (by rw[bk];omega) X2 q3 q6 no2 (k:=.u (xR .i64 ms) e) (n:=ce2.size) _ rfl (rbu _ _ _ _ q7 (by simp))
    refine⟨_,_,rfl,?_,hH3,F3,X3⟩
    rw[ra]
    simp only[RV]
    have hnn:jR nx≠nx:=fun h=>by have:=bk nx;rw[h] at this;omega
    have hr:a.toList= [.slice (some ⟨g1,0,none⟩) ps.length c1',.slice (some ⟨g2,0,none⟩) ms.length c2']:=by
     match hal:a.toList,r1 with
     |
      [a1,a2],⟨w1,w2,w3⟩=>
      have o1:a1=E'.sv X:=by
       rcases w1 with⟨hb,_⟩|⟨_,hb,_⟩
       ·cases hb
       ·simpa using hb
      have o2:a2=E'.sv Y:=by
       rcases w2 with⟨hb,_⟩|⟨_,hb,_⟩
       ·cases hb
       ·simpa using hb
      rw[o1,o2,p2,q2]
     |[],h=>exact h.elim
     |[_],h=>exact h.2.elim
     |_::_::_::_,h=>cases h.2.2
    refine⟨a,rfl,?_⟩
    rw[hr]
    refine aH.aw.2 ⟨_,_,rfl,?_,aH.aw.2 ⟨_,_,rfl,?_,aH.bL.2 rfl⟩⟩
    ·simp only[RV]
     refine⟨g1,c1',?_,rfl,p5,?_⟩
     ·rw[if_neg hnn.symm,if_pos trivial]
     ·rw[if_neg hnn.symm,if_pos trivial,p4];omega
    ·simp only[RV]
     refine⟨g2,c2',?_,rfl,q5,?_⟩
     ·rw[if_pos trivial]
     ·rw[if_pos trivial,q4];omega
   |_=>exact r1.elim
  ·cases h3
  ·cases h3
 ·cases h2
end
end Go.Cm
namespace Go.Cm
open Go.Abs
theorem mz(n:Nat):IntKind.u32.wrap ((n:Nat):Int)=((n % cw:Nat):Int):=by
 simp only[IntKind.wrap,IntKind.bits,IntKind.signed]
 simp
theorem p9(n:Nat):IntKind.u8.wrap ((n:Nat):Int)=((n % 256:Nat):Int):=by
 simp only[IntKind.wrap,IntKind.bits,IntKind.signed]
 simp
theorem BM(a b:Nat):((a:Nat):Int)+((b:Nat):Int)=((a+b:Nat):Int):=(Int.natCast_add a b).symm
theorem Kg{a:Nat}(h:a<cw):(BitVec.ofInt 32 ((a:Nat):Int)).toNat=a:=by
 simp only[BitVec.toNat_ofInt]
 have:((a:Nat):Int) % ((2^32:Nat):Int)=((a % 2^32:Nat):Int):=by rw[←Int.natCast_emod]
 rw[this,Int.toNat_natCast,Nat.mod_eq_of_lt h]
theorem oX{a b:Nat}(ha:a<cw)(hb:b<cw):aq .xor .u32 ((a:Nat):Int) ((b:Nat):Int)=((a ^^^ b:Nat):Int):=by
 show IntKind.u32.wrap (((BitVec.ofInt 32 ((a:Nat):Int) ^^^ BitVec.ofInt 32 ((b:Nat):Int)).toNat:Nat):Int)=_
 rw[BitVec.toNat_xor,Kg ha,Kg hb,mz,Nat.mod_eq_of_lt (Nat.xor_lt_two_pow (n:=32) ha hb)]
theorem BN{a b:Nat}(ha:a<cw)(hb:b<cw):aq .and .u32 ((a:Nat):Int) ((b:Nat):Int)=((a &&& b:Nat):Int):=by
 show IntKind.u32.wrap (((BitVec.ofInt 32 ((a:Nat):Int) &&& BitVec.ofInt 32 ((b:Nat):Int)).toNat:Nat):Int)=_
 rw[BitVec.toNat_and,Kg ha,Kg hb,mz,Nat.mod_eq_of_lt (Nat.lt_of_le_of_lt Nat.and_le_left ha)]
theorem QC{a b:Nat}(ha:a<cw)(hb:b<cw):aq .or .u32 ((a:Nat):Int) ((b:Nat):Int)=((a ||| b:Nat):Int):=by
 show IntKind.u32.wrap (((BitVec.ofInt 32 ((a:Nat):Int) ||| BitVec.ofInt 32 ((b:Nat):Int)).toNat:Nat):Int)=_
 rw[BitVec.toNat_or,Kg ha,Kg hb,mz,Nat.mod_eq_of_lt (Nat.or_lt_two_pow (n:=32) ha hb)]
theorem oH(a k:Nat):Int.fdiv ((a:Nat):Int) (2^k)=((a >>> k:Nat):Int):=by
 rw[Nat.shiftRight_eq_div_pow,show((2:Int)^k)=((2^k:Nat):Int) by rw[Int.natCast_pow];rfl,Int.fdiv_eq_ediv_of_nonneg _ (Int.natCast_nonneg _),←Int.natCast_ediv]
theorem xU{a:Nat}(h:a<cw)(k:Nat):a >>> k<cw:=Nat.lt_of_le_of_lt (by rw[Nat.shiftRight_eq_div_pow];exact Nat.div_le_self _ _) h
theorem On{a k:Nat}(ha:a<cw)(h2:k≤31):aq .or .u32 (Int.fdiv ((a:Nat):Int) (2^(min k 32))) (IntKind.u32.wrap (((a:Nat):Int)*2^(min (32 -k) 32)))=((cE a k:Nat):Int):=by
 have e:((a:Nat):Int)*2^(min (32 -k) 32)=((a <<< (32 -k):Nat):Int):=by
  rw[Nat.shiftLeft_eq,Int.natCast_mul,Int.natCast_pow,Nat.min_eq_left (by omega)];rfl
 rw[e,mz,Nat.min_eq_left (by omega),oH,QC (xU ha k) (Nat.mod_lt _ (by decide))];rfl
theorem lO{a b:Nat}(ha:a<cw)(hb:b<cw):a ^^^ b<cw:=Nat.xor_lt_two_pow (n:=32) ha hb
theorem lP{a b:Nat}(ha:a<cw):a &&& b<cw:=Nat.lt_of_le_of_lt Nat.and_le_left ha
theorem IU{L:List Nat}{j:Nat}(h:j<L.length):nth (.int .u32) (L.map Int.ofNat) ((j:Nat):Int)=((L.getD j 0:Nat):Int):=by
 rw[cS (t:=.int .u32) (show j<(L.map Int.ofNat).length by simpa using h)]
 simp[h,List.getD_eq_getElem?_getD]
def Wl(ws:List Nat):Nat→List Nat
 |0=>ws
 |n+1=>Wl ws n++[nw ((Wl ws n).getD n 0) ((Wl ws n).getD (n+1) 0) ((Wl ws n).getD (n+9) 0) ((Wl ws n).getD (n+14) 0)]
theorem qa{ws:List Nat}(h:ws.length=16):∀n,(Wl ws n).length=16+n
 |0=>h
 |n+1=>by simp[Wl,qa h n];omega
theorem BO{ws:List Nat}(h:cM ws):∀n,cM (Wl ws n)
 |0=>h
 |
  n+1=>by
  intro x hx
  rcases List.mem_append.1 hx with hx|hx
  ·exact BO h n x hx
  ·have:x=_:=List.mem_singleton.1 hx
   subst this
   exact Nat.mod_lt _ (by decide)
theorem tX{ws:List Nat}(h:ws.length=16)(n t:Nat)(ht:t<16+n):∀m,(Wl ws (n+m)).getD t 0=(Wl ws n).getD t 0
 |0=>rfl
 |
  m+1=>by
  have hl:=qa h (n+m)
  rw[←tX h n t ht m]
  show(Wl ws (n+m)++_).getD t 0=_
  rw[List.getD_eq_getElem?_getD,List.getElem?_append_left (by omega),←List.getD_eq_getElem?_getD]
def Wf(ws:List Nat)(t:Nat):Nat:=(Wl ws t).getD t 0
theorem Kx{ws:List Nat}(h:ws.length=16){n t:Nat}(ht:t<16+n):(Wl ws n).getD t 0=Wf ws t:=by
 rcases Nat.le_total t n with hle|hle
 ·obtain⟨m,rfl⟩:∃m,n=t+m:=⟨n -t,by omega⟩
  exact tX h t t (by omega) m
 ·obtain⟨m,rfl⟩:∃m,t=n+m:=⟨t -n,by omega⟩
  exact(tX h n (n+m) ht m).symm
theorem Ky{ws:List Nat}(h:ws.length=16)(n:Nat):Av ((Wl ws n).drop n)=(Wl ws (n+1)).drop (n+1):=by
 have hl:=qa h n
 have g:∀i,((Wl ws n).drop n).getD i 0=(Wl ws n).getD (n+i) 0:=by
  intro i
  rw[List.getD_eq_getElem?_getD,List.getElem?_drop,←List.getD_eq_getElem?_getD]
 show((Wl ws n).drop n).drop 1++[nw (((Wl ws n).drop n).getD 0 0) (((Wl ws n).drop n).getD 1 0) (((Wl ws n).drop n).getD 9 0) (((Wl ws n).drop n).getD 14 0)]=(Wl ws n++[nw ((Wl ws n).getD n 0) ((Wl ws n).getD (n+1) 0) ((Wl ws n).getD (n+9) 0) ((Wl ws n).getD (n+14) 0)]).drop (n+1)
 rw[List.drop_drop,g,g,g,g,List.drop_append_of_le_length (by omega)];rfl
def vV:List Nat→S8→(Nat→Nat)→S8
 |[],s,_=>s
 |k::ks,s,f=>vV ks (s.nx k (f 0)) (fun j=>f (j+1))
theorem QD(h x c k w y m:Nat):(((((h+x) % cw+c) % cw+k) % cw+w) % cw+(y+m) % cw) % cw=(h+x+c+(k+w)+(y+m)) % cw:=by simp only[cw];omega
theorem QE(d h x c k w:Nat):(d+((((h+x) % cw+c) % cw+k) % cw+w) % cw) % cw=(d+(h+x+c+(k+w))) % cw:=by simp only[cw];omega
theorem Oo(s:S8)(k w:Nat):(s.nx k w).a=(s.h+(cE s.e 6 ^^^ cE s.e 11 ^^^ cE s.e 25)+((s.e &&& s.f) ^^^ ((4294967295 ^^^ s.e) &&& s.g))+(k+w)+((cE s.a 2 ^^^ cE s.a 13 ^^^ cE s.a 22)+((s.a &&& s.b) ^^^ (s.a &&& s.c) ^^^ (s.b &&& s.c)))) % cw:=rfl
theorem Oq(s:S8)(k w:Nat):(s.nx k w).e=(s.d+(s.h+(cE s.e 6 ^^^ cE s.e 11 ^^^ cE s.e 25)+((s.e &&& s.f) ^^^ ((4294967295 ^^^ s.e) &&& s.g))+(k+w))) % cw:=rfl
theorem Ot(s:S8)(k w:Nat):(s.nx k w).b=s.a∧(s.nx k w).c=s.b∧(s.nx k w).d=s.c∧(s.nx k w).f=s.e∧(s.nx k w).g=s.f∧(s.nx k w).h=s.g:=⟨rfl,rfl,rfl,rfl,rfl,rfl⟩
theorem AA(k:Nat)(ks:List Nat)(s:S8)(ws:List Nat)(i:Nat):vV (k::ks) s (fun j=>Wf ws (i+j))=vV ks (s.nx k (Wf ws i)) (fun j=>Wf ws (i+1+j)):=by
 show vV ks (s.nx k (Wf ws (i+0))) (fun j=>Wf ws (i+(j+1)))=_
 congr 1
 funext j
 rw[show i+1+j=i+(j+1) by omega]
theorem yX{ws:List Nat}(h:ws.length=16):∀(ks:List Nat)(s:S8)(n:Nat),tR ks s ((Wl ws n).drop n)=vV ks s (fun j=>Wf ws (n+j))
 |[],s,n=>rfl
 |
  k::ks,s,n=>by
  show tR ks (s.nx k (((Wl ws n).drop n).getD 0 0)) (Av ((Wl ws n).drop n))=vV ks (s.nx k (Wf ws (n+0))) (fun j=>Wf ws (n+(j+1)))
  have e:((Wl ws n).drop n).getD 0 0=Wf ws n:=by
   rw[List.getD_eq_getElem?_getD,List.getElem?_drop,←List.getD_eq_getElem?_getD];rfl
  rw[e,Ky h,yX h ks _ (n+1)]
  congr 1
  funext j
  rw[show n+1+j=n+(j+1) from by omega]
theorem sq:∀(n:Nat)(l:List Nat),gv (n+1) l=gv n l++[FW (l.getD (4*n) 0) (l.getD (4*n+1) 0) (l.getD (4*n+2) 0) (l.getD (4*n+3) 0)]
 |0,l=>rfl
 |
  n+1,l=>by
  have g:∀i,(l.drop 4).getD i 0=l.getD (4+i) 0:=by
   intro i
   rw[List.getD_eq_getElem?_getD,List.getElem?_drop,←List.getD_eq_getElem?_getD]
  rw[show gv (n+1+1) l=FW (l.getD 0 0) (l.getD 1 0) (l.getD 2 0) (l.getD 3 0)::gv (n+1) (l.drop 4) from rfl,sq n (l.drop 4),g,g,g,g]
  rw[show 4+4*n=4*(n+1) by omega,show 4+(4*n+1)=4*(n+1)+1 by omega,show 4+(4*n+2)=4*(n+1)+2 by omega,show 4+(4*n+3)=4*(n+1)+3 by omega]
  rfl
theorem sr:∀(n m:Nat)(l:List Nat),4*n≤m→gv n (l.take m)=gv n l
 |0,_,_,_=>rfl
 |
  n+1,m,l,h=>by
  have g:∀i,i<m→(l.take m).getD i 0=l.getD i 0:=by
   intro i hi
   rw[List.getD_eq_getElem?_getD,List.getElem?_take,if_pos hi,←List.getD_eq_getElem?_getD]
  show FW ((l.take m).getD 0 0) ((l.take m).getD 1 0) ((l.take m).getD 2 0) ((l.take m).getD 3 0)::gv n ((l.take m).drop 4)=FW (l.getD 0 0) (l.getD 1 0) (l.getD 2 0) (l.getD 3 0)::gv n (l.drop 4)
  rw[g 0 (by omega),g 1 (by omega),g 2 (by omega),g 3 (by omega),List.drop_take,sr n (m -4) (l.drop 4) (by omega)]
end Go.Cm
