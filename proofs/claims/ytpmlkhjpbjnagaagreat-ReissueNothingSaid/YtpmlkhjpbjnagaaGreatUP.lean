/- part -/
import Derived.Test.YtpmlkhjpbjnagaaGreatFD
import Derived.Test.YtpmlkhjpbjnagaaGreatA5
noncomputable section
namespace Go.Proofs.YtpmlkhjpbjnagaaGreat
open Go.Ax
theorem GX{α:Type}(a b:List α)(x y:α):(a++x::b).set a.length y=a++y::b:=by
 rw[List.set_append_right _ _ (dc _),Nat.sub_self,List.set_cons_zero]
def CJ(own:Zn)(x:Int):Int:=if 0<x then imax ((nth aW own (x -1)).2.1) (-1) else-1
def okP(own:Zn)(b:Zg):Bool:=b.all fun x=>decide (x≤(own.length:Int))&&decide ((own.length:Int)≤1000)
theorem Ur(own:Zn)(b:Zg)(hb:b.length=1024)(gx:okP own b=true):
 ∀(n i:Nat)(v w:Zg),i+w.length=1024→v.length=i→1024 -i<n→
  oK n (own,(i:Int),b,v++w)=some (.bA (v++(b.drop i).map (CJ own))):=by
 intro n
 induction n with
 |zero=>intro i v w _ _ h;omega
 |
  succ n ih=>
  intro i v w h1 h2 hn
  have key:=fun v w(h:i<1024)=>ih (i+1) v w
  unfold oK at key ⊢
  rw[aN]
  generalize aK _ n=rec at key ⊢
  by_cases h:i<1024
  ·have hib:i<b.length:=by omega
   have hd:b.drop i=b[i]::b.drop (i+1):=kA hib
   have hlt:(i:Int)<(1024:Int):=by omega
   have h0:(0:Int)≤(i:Int):=dx i
   have hw:aZ ((i:Int)+1)=((i+1:Nat):Int):=bG (by omega)
   obtain⟨x,w',rfl⟩:∃x w',w=x::w':=by
    cases w with
    |nil=>simp at h1;omega
    |cons x w'=>exact⟨x,w',rfl⟩
   have hs:∀y,(v++x::w').set (Int.toNat (i:Int)) y=v++y::w':=fun y=>by rw[ew,←h2,GX]
   have hx:b[i]≤(own.length:Int)∧(own.length:Int)≤1000:=by
    have:=List.all_eq_true.1 gx b[i] (iQ hib)
    simpa using this
   simp only[cS hlt,bU,aA h0,aA hlt,dg (t:=.int .i64) hib,hw,hs]
   have fin:∀y,y=CJ own b[i]→rec (own,((i+1:Nat):Int),b,v++y::w')=some (.bA (v++List.map (CJ own) (b.drop i))):=by
    intro y hy
    have:=key (v++[y]) w' h (by simp at h1;omega) (by simp[h2]) (by omega)
    rw[sm,List.singleton_append] at this
    rw[this,hd,d8,hy,sm,List.singleton_append]
   by_cases hp:(0:Int)<b[i]
   ·have hw1:aZ (b[i] -1)=b[i] -1:=fT (by omega) (by omega)
    rw[cU hp,hw1,aA (by omega),aA (by omega)]
    have hs2:∀y z,(v++y::w').set (Int.toNat (i:Int)) z=v++z::w':=fun y z=>by rw[ew,←h2,GX]
    rw[hs2]
    exact fin _ (by unfold CJ;rw[aA hp])
   ·rw[aC (by simpa using hp)]
    exact fin _ (by unfold CJ;rw[aC hp])
  ·have hi:i=1024:=by omega
   subst hi
   have hw0:w= []:=by cases w with|nil=>rfl|cons _ _=>simp at h1
   subst hw0
   have hdn:b.drop 1024= []:=pJ (by omega)
   simp only[hdn,List.map_nil]
   rfl
def qL:Zg:=List.replicate 1024 0
theorem QL:0+qL.length=1024:=by unfold qL;rw[jC]
theorem Us:(Ty.aD i9:Zg)=qL:=rfl
def ig(a0:Zn)(a1:cF)(a2:Int):Option gi:=
 Option.bind (j8 a0 a1 a2) fun y2=>aH (U:=Zn×gi) (ku (Int.toNat (List.length y2:Int)+1) (y2,y2,(List.length y2:Int),0,Ty.aD i9)) fun x=>
  if x.2.length=1024 then(if okP x.1 x.2=true then some (x.2.map (CJ x.1)) else none) else none
theorem Ut{a0:Zn}{a1:cF}{a2:Int}{r:gi}(h:ig a0 a1 a2=some r):C8 a0 a1 a2=some r:=by
 unfold ig at h
 unfold C8
 simp only[uu,aL]
 cases hy:j8 a0 a1 a2 with
 |none=>rw[hy] at h;cases h
 |
  some y2=>
  rw[hy] at h
  simp only[aL] at h ⊢
  cases hl:ku (Int.toNat (List.length y2:Int)+1) (y2,y2,(List.length y2:Int),0,Ty.aD i9) with
  |none=>rw[hl] at h;cases h
  |
   some o=>
   rw[hl] at h
   cases o with
   |ret q=>exact h
   |
    bA x=>
    rw[aI] at h ⊢
    split at h
    ·rename_i h1
     split at h
     ·rename_i h2
      have:=Ur x.1 x.2 h1 h2 (Int.toNat (1024:Int)+1) 0 [] qL QL rfl (by have:Int.toNat (1024:Int)=1024:=rfl;omega)
      rw[oo,oo,gp] at this
      rw[Us]
      erw[this]
      rw[aI]
      exact h
     ·cases h
    ·cases h
def QM:aX:=aE G [.tmp 6] 48 [(.val (.slice 64 aW)),(.val aF),vI] [] 120 WO [28] (.bH (u3 ig))
theorem QN:hS QM:=aX.sub S2 fun _ _ h=>Ut h
end Go.Proofs.YtpmlkhjpbjnagaaGreat
