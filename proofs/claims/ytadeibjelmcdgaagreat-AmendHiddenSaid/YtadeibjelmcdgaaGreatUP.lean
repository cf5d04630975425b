/- The values of a key on each day: the last loop in plain words. No condition. -/
import Derived.Test.YtadeibjelmcdgaaGreatFP
noncomputable section
namespace Go.Proofs.YtadeibjelmcdgaaGreat
open Go.Ax
theorem vO{α:Type}(a b:List α)(x y:α):(a++x::b).set a.length y=a++y::b:=by
 rw[List.set_append_right _ _ (Nat.le_refl _),Nat.sub_self,List.set_cons_zero]
def yN(own:List aM)(x:Int):Int:=if 0<x then imax ((nth aP own (x -1)).2.1) (-1) else-1
def N0(own:List aM)(b:List Int):Bool:=b.all fun x=>decide (x≤(own.length:Int))&&decide ((own.length:Int)≤1000)
theorem FT(own:List aM)(b:List Int)(hb:b.length=1024)(dY:N0 own b=true):
 ∀(n i:Nat)(v w:List Int),i+w.length=1024→v.length=i→1024 -i<n→
  jM n (own,(i:Int),b,v++w)=some (.brk (v++(b.drop i).map (yN own))):=by
 intro n
 induction n with
 |zero=>intro i v w _ _ h;omega
 |
  succ n ih=>
  intro i v w h1 h2 hn
  have key:=fun v w(h:i<1024)=>ih (i+1) v w
  unfold jM at key ⊢
  rw[bx]
  generalize aL _ n=rec at key ⊢
  by_cases h:i<1024
  ·have hib:i<b.length:=by omega
   have hd:b.drop i=b[i]::b.drop (i+1):=List.drop_eq_getElem_cons hib
   have Ru:(i:Int)<(1024:Int):=by omega
   have h0:(0:Int)≤(i:Int):=Int.natCast_nonneg i
   have hw:bM ((i:Int)+1)=((i+1:Nat):Int):=eB (by omega)
   obtain⟨x,w',rfl⟩:∃x w',w=x::w':=by
    cases w with
    |nil=>simp at h1;omega
    |cons x w'=>exact⟨x,w',rfl⟩
   have hs:∀y,(v++x::w').set (Int.toNat (i:Int)) y=v++y::w':=fun y=>by rw[Int.toNat_natCast,←h2,vO]
   have hx:b[i]≤(own.length:Int)∧(own.length:Int)≤1000:=by
    have:=List.all_eq_true.1 dY b[i] (List.getElem_mem hib)
    simpa using this
   simp only[decide_eq_true Ru,if_true,if_pos h0,if_pos Ru,ml (t:=.int .i64) hib,hw,hs]
   have fin:∀y,y=yN own b[i]→rec (own,((i+1:Nat):Int),b,v++y::w')=some (.brk (v++List.map (yN own) (b.drop i))):=by
    intro y hy
    have:=key (v++[y]) w' h (by simp at h1;omega) (by simp[h2]) (by omega)
    rw[List.append_assoc,List.singleton_append] at this
    rw[this,hd,List.map_cons,hy,List.append_assoc,List.singleton_append]
   by_cases hp:(0:Int)<b[i]
   ·have hw1:bM (b[i] -1)=b[i] -1:=ik (by omega) (by omega)
    rw[if_pos (decide_eq_true hp),hw1,if_pos (by omega),if_pos (by omega)]
    have hs2:∀y z,(v++y::w').set (Int.toNat (i:Int)) z=v++z::w':=fun y z=>by rw[Int.toNat_natCast,←h2,vO]
    rw[hs2]
    exact fin _ (by unfold yN;rw[if_pos hp])
   ·rw[if_neg (by simpa using hp)]
    exact fin _ (by unfold yN;rw[if_neg hp])
  ·have hi:i=1024:=by omega
   subst hi
   have hw0:w= []:=by cases w with|nil=>rfl|cons _ _=>simp at h1
   subst hw0
   have hdn:b.drop 1024= []:=List.drop_of_length_le (by omega)
   simp only[hdn,List.map_nil]
   rfl
def vP:List Int:=List.replicate 1024 0
theorem Dh:0+vP.length=1024:=by unfold vP;rw[List.length_replicate]
theorem FU:(Ty.bL dV:List Int)=vP:=rfl
def kq(a0:List aM)(a1:aW)(a2:Int):Option dA:=
 Option.bind (gr a0 a1 a2) fun y2=>aG (U:=(List aM)×dA) (k8 (Int.toNat (List.length y2:Int)+1) (y2,y2,(List.length y2:Int),(0:Int),Ty.bL dV)) fun x=>
  if x.2.length=1024 then(if N0 x.1 x.2=true then some (x.2.map (yN x.1)) else none) else none
theorem FV{a0:List aM}{a1:aW}{a2:Int}{r:dA}(h:kq a0 a1 a2=some r):tk a0 a1 a2=some r:=by
 unfold kq at h
 unfold tk
 simp only[nP,Option.bind_some]
 cases hy:gr a0 a1 a2 with
 |none=>rw[hy] at h;cases h
 |
  some y2=>
  rw[hy] at h
  simp only[Option.bind_some] at h ⊢
  cases hl:k8 (Int.toNat (List.length y2:Int)+1) (y2,y2,(List.length y2:Int),(0:Int),Ty.bL dV) with
  |none=>rw[hl] at h;cases h
  |
   some o=>
   rw[hl] at h
   cases o with
   |ret q=>exact h
   |
    brk x=>
    rw[aR] at h ⊢
    split at h
    ·rename_i h1
     split at h
     ·rename_i h2
      have:=FT x.1 x.2 h1 h2 (Int.toNat (1024:Int)+1) 0 [] vP Dh rfl (by have:Int.toNat (1024:Int)=1024:=rfl;omega)
      rw[List.nil_append,List.nil_append,List.drop_zero] at this
      rw[FU]
      erw[this]
      rw[aR]
      exact h
     ·cases h
    ·cases h
def vQ:aH:=aB G [.tmp 6] 63 [(.val (.slice 64 aP)),(.val bC),(.val (.int .i64))] [] 120 Hz [28] (.bE (fun d=>kq d.1 d.2.1 d.2.2.1))
theorem Di:vQ.holds Tryz.prog gl:=aH.sub Fv fun _ _ h=>FV h
end Go.Proofs.YtadeibjelmcdgaaGreat
