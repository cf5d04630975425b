/- part -/
import Derived.Test.YtkhfnbfpgcjllaaGreatDoorFP
import Derived.Test.YtkhfnbfpgcjllaaGreatDoorA5
noncomputable section
namespace Go.Proofs.YtkhfnbfpgcjllaaGreatDoor
open Go.Ax
theorem k7{α:Type}(a b:List α)(x y:α):(a++x::b).set a.length y=a++y::b:=by
 rw[List.set_append_right _ _ (cT _),Nat.sub_self,List.set_cons_zero]
theorem tT(own:Zj)(b:Zd)(hb:b.length=1024)(ig:XL own b=true):
 ∀(n i:Nat)(v w:Zd),i+w.length=1024→v.length=i→1024 -i<n→
  iW n (own,(i:Int),b,v++w)=some (.aX (v++(b.drop i).map (nH own))):=by
 intro n
 induction n with
 |zero=>intro i v w _ _ h;omega
 |
  succ n ih=>
  intro i v w h1 h2 hn
  have key:=fun v w(h:i<1024)=>ih (i+1) v w
  unfold iW at key ⊢
  rw[aK]
  generalize aL _ n=rec at key ⊢
  by_cases h:i<1024
  ·have hib:i<b.length:=by omega
   have hd:b.drop i=b[i]::b.drop (i+1):=iu hib
   have hlt:(i:Int)<(1024:Int):=by omega
   have h0:(0:Int)≤(i:Int):=cw i
   have hw:aV ((i:Int)+1)=((i+1:Nat):Int):=bS (by omega)
   obtain⟨x,w',rfl⟩:∃x w',w=x::w':=by
    cases w with
    |nil=>simp at h1;omega
    |cons x w'=>exact⟨x,w',rfl⟩
   have hs:∀y,(v++x::w').set (Int.toNat (i:Int)) y=v++y::w':=fun y=>by rw[dT,←h2,k7]
   have hx:b[i]≤(own.length:Int)∧(own.length:Int)≤1000:=by
    have:=List.all_eq_true.1 ig b[i] (lq hib)
    simpa using this
   simp only[bQ hlt,cu,aA h0,aA hlt,cH (t:=.int .i64) hib,hw,hs]
   have fin:∀y,y=nH own b[i]→rec (own,((i+1:Nat):Int),b,v++y::w')=some (.aX (v++List.map (nH own) (b.drop i))):=by
    intro y hy
    have:=key (v++[y]) w' h (by simp at h1;omega) (by simp[h2]) (by omega)
    rw[jr,List.singleton_append] at this
    rw[this,hd,fe,hy,jr,List.singleton_append]
   by_cases hp:(0:Int)<b[i]
   ·have hw1:aV (b[i] -1)=b[i] -1:=dO (by omega) (by omega)
    rw[bZ hp,hw1,aA (by omega),aA (by omega)]
    have hs2:∀y z,(v++y::w').set (Int.toNat (i:Int)) z=v++z::w':=fun y z=>by rw[dT,←h2,k7]
    rw[hs2]
    exact fin _ (by unfold nH;rw[aA hp])
   ·rw[aB (by simpa using hp)]
    exact fin _ (by unfold nH;rw[aB hp])
  ·have hi:i=1024:=by omega
   subst hi
   have hw0:w= []:=by cases w with|nil=>rfl|cons _ _=>simp at h1
   subst hw0
   have hdn:b.drop 1024= []:=qE (by omega)
   simp only[hdn,List.map_nil]
   rfl
theorem pM:0+j8.length=1024:=by unfold j8;rw[fY]
theorem tU:(Ty.aH kr:Zd)=j8:=rfl
theorem tV{a0:Zj}{a1:iw}{a2:Int}{r:iO}(h:ib a0 a1 a2=some r):qB a0 a1 a2=some r:=by
 unfold ib at h
 unfold qB
 simp only[sk,aD]
 cases hy:ia a0 a1 a2 with
 |none=>rw[hy] at h;cases h
 |
  some y2=>
  rw[hy] at h
  simp only[aD] at h ⊢
  cases hl:kL (Int.toNat (List.length y2:Int)+1) (y2,y2,(List.length y2:Int),(0:Int),Ty.aH kr) with
  |none=>rw[hl] at h;cases h
  |
   some o=>
   rw[hl] at h
   cases o with
   |ret q=>exact h
   |
    aX x=>
    rw[aC] at h ⊢
    split at h
    ·rename_i h1
     split at h
     ·rename_i h2
      have:=tT x.1 x.2 h1 h2 (Int.toNat (1024:Int)+1) 0 [] j8 pM rfl (by have:Int.toNat (1024:Int)=1024:=rfl;omega)
      rw[jP,jP,fJ] at this
      rw[tU]
      erw[this]
      rw[aC]
      exact h
     ·cases h
    ·cases h
theorem ye:hS yG:=bG.sub Ep fun _ _ h=>tV h
end Go.Proofs.YtkhfnbfpgcjllaaGreatDoor
