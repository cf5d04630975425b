/- part -/
import Derived.Test.YtgdcjlldafmomaaGreatFB
import Derived.Test.YtgdcjlldafmomaaGreatA5
noncomputable section
namespace Go.Proofs.YtgdcjlldafmomaaGreat
open Go.Ax
theorem Dy{α:Type}(a b:List α)(x y:α):(a++x::b).set a.length y=a++y::b:=by
 rw[List.set_append_right _ _ (cL _),Nat.sub_self,List.set_cons_zero]
def zX(own:Zk)(x:Int):Int:=if 0<x then imax ((nth aO own (x -1)).2.1) (-1) else-1
def Qg(own:Zk)(b:Ze):Bool:=b.all fun x=>decide (x≤(own.length:Int))&&decide ((own.length:Int)≤1000)
theorem Mo(own:Zk)(b:Ze)(hb:b.length=1024)(fJ:Qg own b=true):
 ∀(n i:Nat)(v w:Ze),i+w.length=1024→v.length=i→1024 -i<n→
  nM n (own,(i:Int),b,v++w)=some (.brk (v++(b.drop i).map (zX own))):=by
 intro n
 induction n with
 |zero=>intro i v w _ _ h;omega
 |
  succ n ih=>
  intro i v w h1 h2 hn
  have key:=fun v w(h:i<1024)=>ih (i+1) v w
  unfold nM at key ⊢
  rw[aM]
  generalize aK _ n=rec at key ⊢
  by_cases h:i<1024
  ·have hib:i<b.length:=by omega
   have hd:b.drop i=b[i]::b.drop (i+1):=jj hib
   have hlt:(i:Int)<(1024:Int):=by omega
   have h0:(0:Int)≤(i:Int):=dD i
   have hw:aZ ((i:Int)+1)=((i+1:Nat):Int):=bu (by omega)
   obtain⟨x,w',rfl⟩:∃x w',w=x::w':=by
    cases w with
    |nil=>simp at h1;omega
    |cons x w'=>exact⟨x,w',rfl⟩
   have hs:∀y,(v++x::w').set (Int.toNat (i:Int)) y=v++y::w':=fun y=>by rw[dO,←h2,Dy]
   have hx:b[i]≤(own.length:Int)∧(own.length:Int)≤1000:=by
    have:=List.all_eq_true.1 fJ b[i] (jn hib)
    simpa using this
   simp only[cu hlt,bH,aA h0,aA hlt,cT (t:=.int .i64) hib,hw,hs]
   have fin:∀y,y=zX own b[i]→rec (own,((i+1:Nat):Int),b,v++y::w')=some (.brk (v++List.map (zX own) (b.drop i))):=by
    intro y hy
    have:=key (v++[y]) w' h (by simp at h1;omega) (by simp[h2]) (by omega)
    rw[List.append_assoc,List.singleton_append] at this
    rw[this,hd,dC,hy,List.append_assoc,List.singleton_append]
   by_cases hp:(0:Int)<b[i]
   ·have hw1:aZ (b[i] -1)=b[i] -1:=fA (by omega) (by omega)
    rw[cH hp,hw1,aA (by omega),aA (by omega)]
    have hs2:∀y z,(v++y::w').set (Int.toNat (i:Int)) z=v++z::w':=fun y z=>by rw[dO,←h2,Dy]
    rw[hs2]
    exact fin _ (by unfold zX;rw[aA hp])
   ·rw[aC (by simpa using hp)]
    exact fin _ (by unfold zX;rw[aC hp])
  ·have hi:i=1024:=by omega
   subst hi
   have hw0:w= []:=by cases w with|nil=>rfl|cons _ _=>simp at h1
   subst hw0
   have hdn:b.drop 1024= []:=sG (by omega)
   simp only[hdn,List.map_nil]
   rfl
def oW:Ze:=List.replicate 1024 0
theorem Jl:0+oW.length=1024:=by unfold oW;rw[jJ]
theorem Mp:(Ty.aD iI:Ze)=oW:=rfl
def gQ(a0:Zk)(a1:gX)(a2:Int):Option fG:=
 Option.bind (jV a0 a1 a2) fun y2=>aG (U:=Zk×fG) (kA (Int.toNat (List.length y2:Int)+1) (y2,y2,(List.length y2:Int),0,Ty.aD iI)) fun x=>
  if x.2.length=1024 then(if Qg x.1 x.2=true then some (x.2.map (zX x.1)) else none) else none
theorem Mq{a0:Zk}{a1:gX}{a2:Int}{r:fG}(h:gQ a0 a1 a2=some r):By a0 a1 a2=some r:=by
 unfold gQ at h
 unfold By
 simp only[sX,aJ]
 cases hy:jV a0 a1 a2 with
 |none=>rw[hy] at h;cases h
 |
  some y2=>
  rw[hy] at h
  simp only[aJ] at h ⊢
  cases hl:kA (Int.toNat (List.length y2:Int)+1) (y2,y2,(List.length y2:Int),0,Ty.aD iI) with
  |none=>rw[hl] at h;cases h
  |
   some o=>
   rw[hl] at h
   cases o with
   |ret q=>exact h
   |
    brk x=>
    rw[aH] at h ⊢
    split at h
    ·rename_i h1
     split at h
     ·rename_i h2
      have:=Mo x.1 x.2 h1 h2 (Int.toNat (1024:Int)+1) 0 [] oW Jl rfl (by have:Int.toNat (1024:Int)=1024:=rfl;omega)
      rw[mY,mY,gv] at this
      rw[Mp]
      erw[this]
      rw[aH]
      exact h
     ·cases h
    ·cases h
def Jm:aW:=aF G [.tmp 6] 24 [(.val (.slice 64 aO)),(.val bx),vI] [] 120 Pn [28] (.bE (u3 gQ))
theorem Jn:hS Jm:=aW.sub Mc fun _ _ h=>Mq h
end Go.Proofs.YtgdcjlldafmomaaGreat
