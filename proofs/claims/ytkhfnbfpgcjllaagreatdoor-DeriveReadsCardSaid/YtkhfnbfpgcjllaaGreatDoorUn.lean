/- part -/
import Derived.Test.YtkhfnbfpgcjllaaGreatDoorFU
import Derived.Test.YtkhfnbfpgcjllaaGreatDoorA5
noncomputable section
namespace Go.Proofs.YtkhfnbfpgcjllaaGreatDoor
open Go.Ax
theorem lh{α:Type}(a b:List α)(x y:α):(a++x::b).set a.length y=a++y::b:=by
 rw[List.set_append_right _ _ (cV _),Nat.sub_self,List.set_cons_zero]
def lR(own:Zh)(x:Int):Int:=if 0<x then imax ((nth aN own (x -1)).2.1) (-1) else-1
def Nu(own:Zh)(b:Zd):Bool:=b.all fun x=>decide (x≤(own.length:Int))&&decide ((own.length:Int)≤1000)
theorem t9(own:Zh)(b:Zd)(hb:b.length=1024)(iq:Nu own b=true):
 ∀(n i:Nat)(v w:Zd),i+w.length=1024→v.length=i→1024 -i<n→
  i9 n (own,(i:Int),b,v++w)=some (.aS (v++(b.drop i).map (lR own))):=by
 intro n
 induction n with
 |zero=>intro i v w _ _ h;omega
 |
  succ n ih=>
  intro i v w h1 h2 hn
  have key:=fun v w(h:i<1024)=>ih (i+1) v w
  unfold i9 at key ⊢
  rw[aK]
  generalize aL _ n=rec at key ⊢
  by_cases h:i<1024
  ·have hib:i<b.length:=by omega
   have hd:b.drop i=b[i]::b.drop (i+1):=iA hib
   have hlt:(i:Int)<(1024:Int):=by omega
   have h0:(0:Int)≤(i:Int):=cu i
   have hw:aQ ((i:Int)+1)=((i+1:Nat):Int):=bU (by omega)
   obtain⟨x,w',rfl⟩:∃x w',w=x::w':=by
    cases w with
    |nil=>simp at h1;omega
    |cons x w'=>exact⟨x,w',rfl⟩
   have hs:∀y,(v++x::w').set (Int.toNat (i:Int)) y=v++y::w':=fun y=>by rw[dV,←h2,lh]
   have hx:b[i]≤(own.length:Int)∧(own.length:Int)≤1000:=by
    have:=List.all_eq_true.1 iq b[i] (lD hib)
    simpa using this
   simp only[bR hlt,cC,aA h0,aA hlt,cJ (t:=.int .i64) hib,hw,hs]
   have fin:∀y,y=lR own b[i]→rec (own,((i+1:Nat):Int),b,v++y::w')=some (.aS (v++List.map (lR own) (b.drop i))):=by
    intro y hy
    have:=key (v++[y]) w' h (by simp at h1;omega) (by simp[h2]) (by omega)
    rw[iH,List.singleton_append] at this
    rw[this,hd,fp,hy,iH,List.singleton_append]
   by_cases hp:(0:Int)<b[i]
   ·have hw1:aQ (b[i] -1)=b[i] -1:=dR (by omega) (by omega)
    rw[cq hp,hw1,aA (by omega),aA (by omega)]
    have hs2:∀y z,(v++y::w').set (Int.toNat (i:Int)) z=v++z::w':=fun y z=>by rw[dV,←h2,lh]
    rw[hs2]
    exact fin _ (by unfold lR;rw[aA hp])
   ·rw[aB (by simpa using hp)]
    exact fin _ (by unfold lR;rw[aB hp])
  ·have hi:i=1024:=by omega
   subst hi
   have hw0:w= []:=by cases w with|nil=>rfl|cons _ _=>simp at h1
   subst hw0
   have hdn:b.drop 1024= []:=qO (by omega)
   simp only[hdn,List.map_nil]
   rfl
def ko:Zd:=List.replicate 1024 0
theorem qa:0+ko.length=1024:=by unfold ko;rw[gn]
theorem ua:(Ty.aH jX:Zd)=ko:=rfl
def fa(a0:Zh)(a1:hJ)(a2:Int):Option eM:=
 Option.bind (fW a0 a1 a2) fun y2=>aG (U:=Zh×eM) (g8 (Int.toNat (List.length y2:Int)+1) (y2,y2,(List.length y2:Int),(0:Int),Ty.aH jX)) fun x=>
  if x.2.length=1024 then(if Nu x.1 x.2=true then some (x.2.map (lR x.1)) else none) else none
theorem ub{a0:Zh}{a1:hJ}{a2:Int}{r:eM}(h:fa a0 a1 a2=some r):qL a0 a1 a2=some r:=by
 unfold fa at h
 unfold qL
 simp only[sD,aD]
 cases hy:fW a0 a1 a2 with
 |none=>rw[hy] at h;cases h
 |
  some y2=>
  rw[hy] at h
  simp only[aD] at h ⊢
  cases hl:g8 (Int.toNat (List.length y2:Int)+1) (y2,y2,(List.length y2:Int),(0:Int),Ty.aH jX) with
  |none=>rw[hl] at h;cases h
  |
   some o=>
   rw[hl] at h
   cases o with
   |ret q=>exact h
   |
    aS x=>
    rw[aC] at h ⊢
    split at h
    ·rename_i h1
     split at h
     ·rename_i h2
      have:=t9 x.1 x.2 h1 h2 (Int.toNat (1024:Int)+1) 0 [] ko qa rfl (by have:Int.toNat (1024:Int)=1024:=rfl;omega)
      rw[jW,jW,fN] at this
      rw[ua]
      erw[this]
      rw[aC]
      exact h
     ·cases h
    ·cases h
def yQ:bH:=aI G [.tmp 6] 46 [(.val (.slice 64 aN)),(.val aR),vI] [] 120 ack [28] (.bZ (u3 fa))
theorem yo:hS yQ:=bH.sub Ew fun _ _ h=>ub h
end Go.Proofs.YtkhfnbfpgcjllaaGreatDoor
