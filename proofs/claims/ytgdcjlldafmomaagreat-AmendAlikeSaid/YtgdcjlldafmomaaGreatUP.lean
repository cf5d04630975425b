/- part -/
import Derived.Test.YtgdcjlldafmomaaGreatFB
import Derived.Test.YtgdcjlldafmomaaGreatA5
noncomputable section
namespace Go.Proofs.YtgdcjlldafmomaaGreat
open Go.Ax
theorem C6{α:Type}(a b:List α)(x y:α):(a++x::b).set a.length y=a++y::b:=by
 rw[List.set_append_right _ _ (cq _),Nat.sub_self,List.set_cons_zero]
def zx(own:Zk)(x:Int):Int:=if 0<x then imax ((nth aP own (x -1)).2.1) (-1) else-1
def Pg(own:Zk)(b:Ze):Bool:=b.all fun x=>decide (x≤(own.length:Int))&&decide ((own.length:Int)≤1000)
theorem LD(own:Zk)(b:Ze)(hb:b.length=1024)(fV:Pg own b=true):
 ∀(n i:Nat)(v w:Ze),i+w.length=1024→v.length=i→1024 -i<n→
  oh n (own,(i:Int),b,v++w)=some (.brk (v++(b.drop i).map (zx own))):=by
 intro n
 induction n with
 |zero=>intro i v w _ _ h;omega
 |
  succ n ih=>
  intro i v w h1 h2 hn
  have key:=fun v w(h:i<1024)=>ih (i+1) v w
  unfold oh at key ⊢
  rw[aM]
  generalize aK _ n=rec at key ⊢
  by_cases h:i<1024
  ·have hib:i<b.length:=by omega
   have hd:b.drop i=b[i]::b.drop (i+1):=jz hib
   have hlt:(i:Int)<(1024:Int):=by omega
   have h0:(0:Int)≤(i:Int):=dD i
   have hw:aZ ((i:Int)+1)=((i+1:Nat):Int):=bw (by omega)
   obtain⟨x,w',rfl⟩:∃x w',w=x::w':=by
    cases w with
    |nil=>simp at h1;omega
    |cons x w'=>exact⟨x,w',rfl⟩
   have hs:∀y,(v++x::w').set (Int.toNat (i:Int)) y=v++y::w':=fun y=>by rw[dJ,←h2,C6]
   have hx:b[i]≤(own.length:Int)∧(own.length:Int)≤1000:=by
    have:=List.all_eq_true.1 fV b[i] (ij hib)
    simpa using this
   simp only[cC hlt,bC,aA h0,aA hlt,dg (t:=.int .i64) hib,hw,hs]
   have fin:∀y,y=zx own b[i]→rec (own,((i+1:Nat):Int),b,v++y::w')=some (.brk (v++List.map (zx own) (b.drop i))):=by
    intro y hy
    have:=key (v++[y]) w' h (by simp at h1;omega) (by simp[h2]) (by omega)
    rw[jV,List.singleton_append] at this
    rw[this,hd,dp,hy,jV,List.singleton_append]
   by_cases hp:(0:Int)<b[i]
   ·have hw1:aZ (b[i] -1)=b[i] -1:=fu (by omega) (by omega)
    rw[cI hp,hw1,aA (by omega),aA (by omega)]
    have hs2:∀y z,(v++y::w').set (Int.toNat (i:Int)) z=v++z::w':=fun y z=>by rw[dJ,←h2,C6]
    rw[hs2]
    exact fin _ (by unfold zx;rw[aA hp])
   ·rw[aC (by simpa using hp)]
    exact fin _ (by unfold zx;rw[aC hp])
  ·have hi:i=1024:=by omega
   subst hi
   have hw0:w= []:=by cases w with|nil=>rfl|cons _ _=>simp at h1
   subst hw0
   have hdn:b.drop 1024= []:=ma (by omega)
   simp only[hdn,List.map_nil]
   rfl
def py:Ze:=List.replicate 1024 0
theorem Jq:0+py.length=1024:=by unfold py;rw[fO]
theorem LF:(Ty.aD iW:Ze)=py:=rfl
def gX(a0:Zk)(a1:ib)(a2:Int):Option fK:=
 Option.bind (ka a0 a1 a2) fun y2=>aG (U:=Zk×fK) (kO (Int.toNat (List.length y2:Int)+1) (y2,y2,(List.length y2:Int),0,Ty.aD iW)) fun x=>
  if x.2.length=1024 then(if Pg x.1 x.2=true then some (x.2.map (zx x.1)) else none) else none
theorem LG{a0:Zk}{a1:ib}{a2:Int}{r:fK}(h:gX a0 a1 a2=some r):Bh a0 a1 a2=some r:=by
 unfold gX at h
 unfold Bh
 simp only[ue,aH]
 cases hy:ka a0 a1 a2 with
 |none=>rw[hy] at h;cases h
 |
  some y2=>
  rw[hy] at h
  simp only[aH] at h ⊢
  cases hl:kO (Int.toNat (List.length y2:Int)+1) (y2,y2,(List.length y2:Int),0,Ty.aD iW) with
  |none=>rw[hl] at h;cases h
  |
   some o=>
   rw[hl] at h
   cases o with
   |ret q=>exact h
   |
    brk x=>
    rw[aI] at h ⊢
    split at h
    ·rename_i h1
     split at h
     ·rename_i h2
      have:=LD x.1 x.2 h1 h2 (Int.toNat (1024:Int)+1) 0 [] py Jq rfl (by have:Int.toNat (1024:Int)=1024:=rfl;omega)
      rw[gO,gO,eS] at this
      rw[LF]
      erw[this]
      rw[aI]
      exact h
     ·cases h
    ·cases h
def Jr:aW:=aF G [.tmp 6] 24 [(.val (.slice 64 aP)),(.val bu),vI] [] 120 N0 [28] (.bH (u3 gX))
theorem Js:hS Jr:=aW.sub Lv fun _ _ h=>LG h
end Go.Proofs.YtgdcjlldafmomaaGreat
