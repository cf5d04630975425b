/- RoundsPlacesSpec: the plain law. -/
import Derived.Test.YtmpdeifdnbhdiaaGreatDoorVE
namespace Go.Proofs.YtmpdeifdnbhdiaaGreatDoor
open Go.Abs Go.Sort
theorem JX(l:List Int)(hl:l.length≤1000):∀(k fuel i:Nat),l.length -i=k→i≤l.length→k<fuel→j6 l l fuel (i:Int)=some (.brk ()):=by
 intro k
 induction k with
 |
  zero=>
  intro fuel i hk hi hf
  cases fuel with
  |zero=>omega
  |succ fuel=>rw[j6,if_neg (by simp;omega)]
 |
  succ k ih=>
  intro fuel i hk hi hf
  cases fuel with
  |zero=>omega
  |
   succ fuel=>
   rw[j6,if_pos (by simp;omega),if_pos (by omega),if_pos (by omega),if_neg (by simp),aE (by omega)]
   exact ih fuel (i+1) (by omega) (by omega) (by omega)
theorem Bi(l:List Int)(hl:l.length≤1000):f12 l l=some true:=by
 unfold f12
 rw[if_neg (by simp),show j6 l l bC 0=_ from JX l hl l.length bC 0 (by omega) (by omega) (by simp only[bC];omega),cW]
theorem JY(l:List aO)(hl:l.length≤4611686018427387904):∀(k fuel i:Nat),l.length -i=k→i≤l.length→k<fuel→jB l l fuel (i:Int)=some (.brk ()):=by
 intro k
 induction k with
 |
  zero=>
  intro fuel i hk hi hf
  cases fuel with
  |zero=>omega
  |succ fuel=>rw[jB,if_neg (by simp;omega)]
 |
  succ k ih=>
  intro fuel i hk hi hf
  cases fuel with
  |zero=>omega
  |
   succ fuel=>
   rw[jB,if_pos (by simp;omega),if_pos (by omega),if_pos (by omega),if_neg (by rw[fT];simp),aE (by omega)]
   exact ih fuel (i+1) (by omega) (by omega) (by omega)
theorem v27(l:List aO)(hl:l.length≤4611686018427387904):f27 l l=some true:=by
 unfold f27
 rw[if_neg (by simp),show jB l l bC 0=_ from JY l hl l.length bC 0 (by omega) (by omega) (by simp only[bC];omega),cW]
theorem JZ(l:List cY)(hl:l.length≤1000)(hw:∀x∈l,(x.2.2.2.1).length≤4611686018427387904):∀(k fuel i:Nat),l.length -i=k→i≤l.length→k<fuel→jC l l fuel (i:Int)=some (.brk ()):=by
 intro k
 induction k with
 |
  zero=>
  intro fuel i hk hi hf
  cases fuel with
  |zero=>omega
  |succ fuel=>rw[jC,if_neg (by simp;omega)]
 |
  succ k ih=>
  intro fuel i hk hi hf
  cases fuel with
  |zero=>omega
  |
   succ fuel=>
   have hi':i<l.length:=by omega
   have e1:nth aY l (i:Int)=l[i]:=cS hi'
   rw[jC,if_pos (by simp;omega),if_pos (by omega),if_pos (by omega),if_neg (by simp),if_neg (by simp),if_neg (by rw[fT];simp),v27 _ (by rw[e1];exact hw _ (List.getElem_mem hi')),cW,cW,if_neg (by simp),cW]
   dsimp only
   rw[aE (by omega)]
   exact ih fuel (i+1) (by omega) (by omega) (by omega)
theorem J0(l:List cY)(hl:l.length≤1000)(hw:∀x∈l,(x.2.2.2.1).length≤4611686018427387904):f13 l l=some true:=by
 unfold f13
 rw[if_neg (by simp),show jC l l bC 0=_ from JZ l hl hw l.length bC 0 (by omega) (by omega) (by simp only[bC];omega),cW]
def Lk(l:List cY):Prop:=∀x∈l,(x.2.2.2.1).length≤4611686018427387904
theorem Lk.set{l:List cY}(h:Lk l)(i:Nat){v:cY}(hv:(v.2.2.2.1).length≤4611686018427387904):Lk (List.set l i v):=by
 intro x hx
 rcases List.mem_or_eq_of_mem_set hx with hx|hx
 ·exact h x hx
 ·rw[hx];exact hv
theorem Lk.nth{l:List cY}(h:Lk l)(i:Int):((nth aY l i).2.2.2.1).length≤4611686018427387904:=by
 by_cases q:i.toNat<l.length
 ·have e:Abs.nth aY l i=l[i.toNat]:=by unfold Abs.nth;rw[List.getD_eq_getElem?_getD,List.getElem?_eq_getElem q];rfl
  rw[e];exact h _ (List.getElem_mem q)
 ·have e:Abs.nth aY l i=Ty.aX aY:=by unfold Abs.nth;rw[List.getD_eq_getElem?_getD,List.getElem?_eq_none (by omega)];rfl
  rw[e];show(0:Nat)≤4611686018427387904;omega
theorem gW{α:Type}{c:Prop}[Decidable c]{x y z:Option α}(h:c)(e:x=z):(if c then x else y)=z:=by rw[if_pos h];exact e
def Fs(l:List cY)(a b:Int):List cY:=
 let l1:=List.set l (Int.toNat a) ((nth aY l b).1,(nth aY l a).2)
 let l2:=List.set l1 (Int.toNat a) ((nth aY l1 a).1,(((nth aY l b).2).1,((nth aY l1 a).2).2))
 let l3:=List.set l2 (Int.toNat b) ((nth aY l a).1,(nth aY l2 b).2)
 List.set l3 (Int.toNat b) ((nth aY l3 b).1,(((nth aY l a).2).1,((nth aY l3 b).2).2))
theorem C8(l:List cY)(a b:Int):(Fs l a b).length=l.length:=by
 simp only[Fs,List.length_set]
theorem Ft{l:List cY}(h:Lk l)(a b:Int):Lk (Fs l a b):=by
 have h1:Lk (List.set l (Int.toNat a) ((nth aY l b).1,(nth aY l a).2)):=h.set _ (h.nth a)
 have h2:=h1.set (Int.toNat a) (v:=((nth aY (List.set l (Int.toNat a) ((nth aY l b).1,(nth aY l a).2)) a).1,(((nth aY l b).2).1,((nth aY (List.set l (Int.toNat a) ((nth aY l b).1,(nth aY l a).2)) a).2).2))) (h1.nth a)
 have h3:=h2.set (Int.toNat b) (v:=((nth aY l a).1,(nth aY _ b).2)) (h2.nth b)
 exact h3.set (Int.toNat b) (h3.nth b)
theorem NR(l:List cY)(hl:l.length≤1000)(hw:Lk l)(a b:Int):∃r:List cY×Int,f10 l a b=some r∧f11 l a b=some r∧r.1.length≤1000∧Lk r.1:=by
 by_cases h:0≤a∧a<(l.length:Int)∧0≤b∧b<(l.length:Int)
 ·obtain⟨h1,h2,h3,h4⟩:=h
  have c:(if(decide (a<(0:Int)))=true then(some true) else(if(decide ((List.length l:Int)≤a))=true then(some true) else(if(decide (b<(0:Int)))=true then(some true) else(some (decide ((List.length l:Int)≤b))))))=some false:=by
   rw[if_neg (by simp;omega),if_neg (by simp;omega),if_neg (by simp;omega)]
   simp;omega
  have hc:(List.length ([]:List cY)+List.length l)*72≤az:=by simp only[List.length_nil,az];omega
  refine⟨(Fs l a b,0),?_,?_,by rw[C8];exact hl,Ft hw a b⟩
  ·unfold f10
   rw[c,cW,if_neg (by simp),cW]
   dsimp only
   unfold vq
   rw[if_pos hc,cW]
   exact gW ⟨h3,h4⟩ (gW ⟨h1,h2⟩ (gW h2 (gW (by rw[List.length_set];exact h2) (gW (by rw[List.length_set,List.length_set];exact h4) (gW (by rw[List.length_set,List.length_set,List.length_set];exact h4) rfl)))))
  ·unfold f11
   rw[c,cW,if_neg (by simp),cW]
   dsimp only
   rw[if_pos hc]
   exact gW ⟨h3,h4⟩ (gW ⟨h1,h2⟩ (gW (by rw[List.length_set];exact h2) (gW (by rw[List.length_set,List.length_set];exact h4) (gW (by rw[List.length_set,List.length_set,List.length_set];exact h4) rfl))))
 ·have c:(if(decide (a<(0:Int)))=true then(some true) else(if(decide ((List.length l:Int)≤a))=true then(some true) else(if(decide (b<(0:Int)))=true then(some true) else(some (decide ((List.length l:Int)≤b))))))=some true:=by
   by_cases q1:a<0
   ·rw[if_pos (by simpa using q1)]
   ·rw[if_neg (by simpa using q1)]
    by_cases q2:(l.length:Int)≤a
    ·rw[if_pos (by simpa using q2)]
    ·rw[if_neg (by simpa using q2)]
     by_cases q3:b<0
     ·rw[if_pos (by simpa using q3)]
     ·rw[if_neg (by simpa using q3)]
      simp;omega
  refine⟨([],1),?_,?_,by simp,by intro x hx;cases hx⟩
  ·unfold f10;rw[c,cW,if_pos rfl,cW]
  ·unfold f11;rw[c,cW,if_pos rfl,cW]
theorem v3(a0:aO)(a1:Int)(a2:List cY)(a3 a4:Int)(ha:Dg a0)(hw:Lk a2):f3 a0 a1 a2 a3 a4=some true:=by
 unfold f3
 rw[show f5=some true from rfl,cW,if_neg (by decide)]
 by_cases h:a2.length≤30
 ·rw[if_neg (by simp;omega)]
  obtain⟨r,e1,e2,e3⟩:=QF ha a1
  obtain⟨s,e4,e5,e6,e7⟩:=Q6 a2 (by omega)
  obtain⟨t,e8,e9,e10,e11⟩:=NR a2 (by omega) hw a3 a4
  rw[e1,cW,e2,cW,e4,cW,e5,cW,e8,cW,e9,cW]
  rw[Bi _ (by omega),cW,if_pos rfl,if_pos (by simp),Bi _ e6,cW,if_pos rfl,Bi _ e7,cW,if_pos rfl,J0 _ e10 e11,cW,if_pos rfl]
  simp
 ·rw[if_pos (by simp;omega)]
theorem Q5(a0:aO)(a1:Int)(a2:List cY)(a3 a4:Int)(h0:wf aD a0)(_h1:wf (.int .i64) a1)(h2:wf (.slice 72 aY) a2)(_h3:wf (.int .i64) a3)(_h4:wf (.int .i64) a4):f3 a0 a1 a2 a3 a4=some true:=by
 refine v3 a0 a1 a2 a3 a4 ⟨h0.1,?_⟩ ?_
 ·intro x hx
  have:(0:Int)≤x∧x≤255:=h0.2 x hx
  omega
 ·intro x hx
  obtain⟨_,_,_,h,_⟩:=h2.2.2 x hx
  have:(x.2.2.2.1).length≤az:=h.2.1
  simp only[az] at this
  omega
end Go.Proofs.YtmpdeifdnbhdiaaGreatDoor
