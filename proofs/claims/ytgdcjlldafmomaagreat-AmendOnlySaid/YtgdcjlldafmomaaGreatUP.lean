/- The values of a key on each day: the last loop in plain words. No condition. -/
import Derived.Test.YtgdcjlldafmomaaGreatFB
import Derived.Test.YtgdcjlldafmomaaGreatA5
noncomputable section
namespace Go.Proofs.YtgdcjlldafmomaaGreat
open Go.Ax
theorem Bd{α:Type}(a b:List α)(x y:α):(a++x::b).set a.length y=a++y::b:=by
 rw[List.set_append_right _ _ (Nat.le_refl _),Nat.sub_self,List.set_cons_zero]
def B0(own:Zl)(x:Int):Int:=if 0<x then imax ((nth aR own (x -1)).2.1) (-1) else-1
def V5(own:Zl)(b:Zf):Bool:=b.all fun x=>decide (x≤(own.length:Int))&&decide ((own.length:Int)≤1000)
theorem J1(own:Zl)(b:Zf)(hb:b.length=1024)(eM:V5 own b=true):
 ∀(n i:Nat)(v w:Zf),i+w.length=1024→v.length=i→1024 -i<n→
  lO n (own,(i:Int),b,v++w)=some (.brk (v++(b.drop i).map (B0 own))):=by
 intro n
 induction n with
 |zero=>intro i v w _ _ h;omega
 |
  succ n ih=>
  intro i v w h1 h2 hn
  have key:=fun v w(h:i<1024)=>ih (i+1) v w
  unfold lO at key ⊢
  rw[aP]
  generalize aH _ n=rec at key ⊢
  by_cases h:i<1024
  ·have hib:i<b.length:=by omega
   have hd:b.drop i=b[i]::b.drop (i+1):=List.drop_eq_getElem_cons hib
   have hlt:(i:Int)<(1024:Int):=by omega
   have h0:(0:Int)≤(i:Int):=Int.natCast_nonneg i
   have hw:aV ((i:Int)+1)=((i+1:Nat):Int):=aJ (by omega)
   obtain⟨x,w',rfl⟩:∃x w',w=x::w':=by
    cases w with
    |nil=>simp at h1;omega
    |cons x w'=>exact⟨x,w',rfl⟩
   have hs:∀y,(v++x::w').set (Int.toNat (i:Int)) y=v++y::w':=fun y=>by rw[Int.toNat_natCast,←h2,Bd]
   have hx:b[i]≤(own.length:Int)∧(own.length:Int)≤1000:=by
    have:=List.all_eq_true.1 eM b[i] (List.getElem_mem hib)
    simpa using this
   simp only[decide_eq_true hlt,if_true,if_pos h0,if_pos hlt,db (t:=.int .i64) hib,hw,hs]
   have fin:∀y,y=B0 own b[i]→rec (own,((i+1:Nat):Int),b,v++y::w')=some (.brk (v++List.map (B0 own) (b.drop i))):=by
    intro y hy
    have:=key (v++[y]) w' h (by simp at h1;omega) (by simp[h2]) (by omega)
    rw[List.append_assoc,List.singleton_append] at this
    rw[this,hd,List.map_cons,hy,List.append_assoc,List.singleton_append]
   by_cases hp:(0:Int)<b[i]
   ·have hw1:aV (b[i] -1)=b[i] -1:=fT (by omega) (by omega)
    rw[if_pos (decide_eq_true hp),hw1,if_pos (by omega),if_pos (by omega)]
    have hs2:∀y z,(v++y::w').set (Int.toNat (i:Int)) z=v++z::w':=fun y z=>by rw[Int.toNat_natCast,←h2,Bd]
    rw[hs2]
    exact fin _ (by unfold B0;rw[if_pos hp])
   ·rw[if_neg (by simpa using hp)]
    exact fin _ (by unfold B0;rw[if_neg hp])
  ·have hi:i=1024:=by omega
   subst hi
   have hw0:w= []:=by cases w with|nil=>rfl|cons _ _=>simp at h1
   subst hw0
   have hdn:b.drop 1024= []:=List.drop_of_length_le (by omega)
   simp only[hdn,List.map_nil]
   rfl
def Be:Zf:=List.replicate 1024 0
theorem HD:0+Be.length=1024:=by unfold Be;rw[List.length_replicate]
theorem J2:(Ty.aB gA:Zf)=Be:=rfl
def mK(a0:Zl)(a1:fQ)(a2:Int):Option ew:=
 Option.bind (kR a0 a1 a2) fun y2=>aE (U:=Zl×ew) (nE (Int.toNat (List.length y2:Int)+1) (y2,y2,(List.length y2:Int),(0:Int),Ty.aB gA)) fun x=>
  if x.2.length=1024 then(if V5 x.1 x.2=true then some (x.2.map (B0 x.1)) else none) else none
theorem J3{a0:Zl}{a1:fQ}{a2:Int}{r:ew}(h:mK a0 a1 a2=some r):zb a0 a1 a2=some r:=by
 unfold mK at h
 unfold zb
 simp only[rq,Option.bind_some]
 cases hy:kR a0 a1 a2 with
 |none=>rw[hy] at h;cases h
 |
  some y2=>
  rw[hy] at h
  simp only[Option.bind_some] at h ⊢
  cases hl:nE (Int.toNat (List.length y2:Int)+1) (y2,y2,(List.length y2:Int),(0:Int),Ty.aB gA) with
  |none=>rw[hl] at h;cases h
  |
   some o=>
   rw[hl] at h
   cases o with
   |ret q=>exact h
   |
    brk x=>
    rw[aG] at h ⊢
    split at h
    ·rename_i h1
     split at h
     ·rename_i h2
      have:=J1 x.1 x.2 h1 h2 (Int.toNat (1024:Int)+1) 0 [] Be HD rfl (by have:Int.toNat (1024:Int)=1024:=rfl;omega)
      rw[List.nil_append,List.nil_append,List.drop_zero] at this
      rw[J2]
      erw[this]
      rw[aG]
      exact h
     ·cases h
    ·cases h
def HE:aT:=aD G [.tmp 6] 24 [(.val (.slice 64 aR)),(.val bE),vI] [] 120 MG [28] (.bx (u3 mK))
theorem HF:hS HE:=aT.sub JT fun _ _ h=>J3 h
end Go.Proofs.YtgdcjlldafmomaaGreat
