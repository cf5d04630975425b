/- ViewsSeen's printed function answers true: what is few. No condition beyond what each theorem states. -/
import Derived.Test.YtjabllhapfphoaaGreatDoorF2
import Derived.Test.YtjabllhapfphoaaGreatDoorL0
namespace Go.Proofs.YtjabllhapfphoaaGreatDoor
open Go.Abs
theorem bu:az=140737488355328:=rfl
theorem t61(a:Int)(b:lZ):∃r,f61 a b=some r:=by
 unfold f61
 split
 ·split
  ·exact⟨_,rfl⟩
  ·exact⟨_,rfl⟩
 ·split
  ·split
   ·exact⟨_,rfl⟩
   ·exact⟨_,rfl⟩
  ·exact⟨_,rfl⟩
theorem Fq(p:cI)(u:Int)(h:(nth a8 p.2.2.2.2.1 u).2.2.2.2.2.2.2.2.2.1.length≤az):∃r,gT p u bX 0=some r:=by
 obtain⟨r,_,e⟩:=cE (σ:=Unit) (fun _ _=>True) (fun _=>True) (fun n i _=>gT p u n i) (nth a8 p.2.2.2.2.1 u).2.2.2.2.2.2.2.2.2.1.length
  (fun n i s hi _=>by
   obtain⟨b,hb⟩:=t61 1 (nth fw (nth a8 p.2.2.2.2.1 u).2.2.2.2.2.2.2.2.2.1 (i:Int))
   simp only[gT]
   rw[if_pos (by rw[decide_eq_true_eq];omega),if_pos (by omega),hb,bs]
   cases b with
   |false=>right;exact⟨_,trivial,rfl⟩
   |true=>left;exact⟨(),trivial,by rw[aJ (by have:=bu;omega)];rfl⟩)
  (fun n s _=>by
   simp only[gT]
   rw[if_neg (by rw[decide_eq_true_eq];omega)];exact⟨_,trivial,rfl⟩) bX 0 () (Nat.zero_le _) (by simp only[bX];have:=bu;omega) trivial
 exact⟨r,e⟩
theorem Fs(p:cI)(h:p.2.2.2.2.1.length≤az)(hc:∀s∈p.2.2.2.2.1,s.2.2.2.2.2.2.2.2.2.1.length≤az):∃r,gU p bX 0=some r:=by
 obtain⟨r,_,e⟩:=cE (σ:=Unit) (fun _ _=>True) (fun _=>True) (fun n i _=>gU p n i) p.2.2.2.2.1.length
  (fun n i s hi _=>by
   have hmem:nth a8 p.2.2.2.2.1 (i:Int)∈p.2.2.2.2.1:=by rw[aR (t:=a8) hi];exact List.getElem_mem _
   obtain⟨r2,hr2⟩:=Fq p (i:Int) (hc _ hmem)
   simp only[gU]
   rw[if_pos (by rw[decide_eq_true_eq];omega),if_pos (by omega)]
   have inner:∃o:c6 Unit Bool,(Option.bind (if(decide ((16:Int)<(List.length (((((((nth a8 p.2.2.2.2.1 (i:Int)).2).2).2).2).2).1):Int)))=true then(some true) else(if(decide ((16:Int)<(List.length ((((((((nth a8 p.2.2.2.2.1 (i:Int)).2).2).2).2).2).2).1):Int)))=true then(some true) else(some (decide ((16:Int)<(List.length (((((((((((nth a8 p.2.2.2.2.1 (i:Int)).2).2).2).2).2).2).2).2).2).1):Int)))))) fun(o5:Bool)=>if o5=true then(some (.ret false)) else(some (.bh ())))=some o:=by
    split
    ·exact⟨_,rfl⟩
    ·split
     ·exact⟨_,rfl⟩
     ·rw[bs];split<;>exact⟨_,rfl⟩
   obtain⟨o,ho⟩:=inner
   rw[ho,bs]
   cases o with
   |ret r=>right;exact⟨_,trivial,rfl⟩
   |
    bh u=>
    rw[hr2]
    cases r2 with
    |ret r=>right;exact⟨_,trivial,rfl⟩
    |bh v=>left;exact⟨(),trivial,by rw[aJ (by have:=bu;omega)];rfl⟩)
  (fun n s _=>by
   simp only[gU]
   rw[if_neg (by rw[decide_eq_true_eq];omega)];exact⟨_,trivial,rfl⟩) bX 0 () (Nat.zero_le _) (by simp only[bX];have:=bu;omega) trivial
 exact⟨r,e⟩
theorem Ft(p:cI)(h:p.2.2.2.2.2.1.length≤az):∃r,gV p bX 0=some r:=by
 obtain⟨r,_,e⟩:=cE (σ:=Unit) (fun _ _=>True) (fun _=>True) (fun n i _=>gV p n i) p.2.2.2.2.2.1.length
  (fun n i s hi _=>by
   simp only[gV]
   rw[if_pos (by rw[decide_eq_true_eq];omega),if_pos (by omega)]
   split
   ·right;exact⟨_,trivial,rfl⟩
   ·left;exact⟨(),trivial,by rw[aJ (by have:=bu;omega)]⟩)
  (fun n s _=>by
   simp only[gV]
   rw[if_neg (by rw[decide_eq_true_eq];omega)];exact⟨_,trivial,rfl⟩) bX 0 () (Nat.zero_le _) (by simp only[bX];have:=bu;omega) trivial
 exact⟨r,e⟩
theorem pC{p:cI}(h:wf aI p):p.2.2.2.2.1.length≤az∧(∀s∈p.2.2.2.2.1,wf a8 s)∧p.2.2.2.2.2.1.length≤az:=by
 obtain⟨_,_,_,_,h5,h6,_⟩:=h
 exact⟨h5.2.1,h5.2.2,h6.2.1⟩
theorem yg{s:l3}(h:wf a8 s):s.2.2.2.2.2.2.2.2.2.1.length≤az∧s.2.2.2.2.2.1.length*8≤az∧s.2.2.2.2.2.2.1.length*8≤az:=by
 obtain⟨_,_,_,_,_,h6,h7,_,_,h10,_⟩:=h
 exact⟨h10.2.1,h6.1,h7.1⟩
theorem t26(p:cI)(h:wf aI p):∃b,f26 p=some b∧(b=true→p.2.2.2.2.1.length≤6):=by
 obtain⟨h1,h2,h3⟩:=pC h
 obtain⟨r1,e1⟩:=Fs p h1 (fun s hs=>(yg (h2 s hs)).1)
 obtain⟨r3,e3⟩:=Ft p h3
 unfold f26
 rw[e1,bs]
 cases r1 with
 |
  ret r=>
  refine⟨r,rfl,fun hr=>?_⟩
  subst hr
  have key:∀n (
   i:Nat),gU p n (i:Int)≠some (.ret true):=by
   intro n
   induction n with
   |zero=>intro i hh;cases hh
   |
    succ n ih=>
    intro i hh
    simp only[gU] at hh
    split at hh
    ·split at hh
     ·rename_i hlt _
      have hlt:i<p.2.2.2.2.1.length:=by rw[decide_eq_true_eq] at hlt;omega
      obtain⟨o,ho,hh⟩:=bind_some hh
      obtain⟨o4,ho4,ho⟩:=bind_some ho
      obtain⟨o5,ho5,ho4⟩:=bind_some ho4
      have no2:∀n(j:Nat),gT p (i:Int) n (j:Int)≠some (.ret true):=by
       intro n
       induction n with
       |zero=>intro j hh;cases hh
       |
        succ n ih=>
        intro j hh
        simp only[gT] at hh
        split at hh
        ·rename_i hj
         split at hh
         ·obtain⟨y,_,hh⟩:=bind_some hh
          split at hh
          ·cases hh
          ·rename_i hb _
           have hmem:nth a8 p.2.2.2.2.1 (i:Int)∈p.2.2.2.2.1:=by rw[aR (t:=a8) hlt];exact List.getElem_mem _
           have:=(yg (h2 _ hmem)).1
           rw[aJ (by have:=bu;omega)] at hh
           exact ih (j+1) hh
         ·cases hh
        ·cases hh
      split at ho4
      ·cases ho4
       cases ho
       cases hh
      ·cases ho4
       obtain⟨o10,ho10,ho⟩:=bind_some ho
       cases o10 with
       |
        bh v=>
        cases ho
        rw[aJ (by have:=bu;omega)] at hh
        exact ih (i+1) hh
       |
        ret r=>
        cases ho
        cases hh
        exact no2 _ 0 ho10
     ·cases hh
    ·cases hh
  exact absurd e1 (key bX 0)
 |
  bh u=>
  simp only[]
  rw[e3,bs]
  cases r3 with
  |
   ret r=>
   refine⟨r,rfl,fun hr=>?_⟩
   subst hr
   have key:∀n(i:Nat),gV p n (i:Int)≠some (.ret true):=by
    intro n
    induction n with
    |zero=>intro i hh;cases hh
    |
     succ n ih=>
     intro i hh
     simp only[gV] at hh
     split at hh
     ·rename_i hlt
      split at hh
      ·split at hh
       ·cases hh
       ·rw[aJ (by have:=bu;omega)] at hh
        exact ih (i+1) hh
      ·cases hh
     ·cases hh
   exact absurd e3 (key bX 0)
  |
   bh u=>
   simp only[]
   split
   ·rename_i hle
    rw[decide_eq_true_eq] at hle
    refine⟨_,rfl,fun _=>?_⟩
    omega
   ·exact⟨false,rfl,fun h=>by cases h⟩
theorem t6(a0:List cI)(hl:a0.length≤az)(h:∀p∈a0,wf aI p):∃b,f6 a0=some b∧(b=true→a0.length≤8∧∀p∈a0,p.2.2.2.2.1.length≤6):=by
 obtain⟨r,hr,e⟩:=cE (σ:=Unit) (fun i _=>∀p∈a0.take i,p.2.2.2.2.1.length≤6) (fun r:c6 Unit Bool=>(∀u,r= .bh u→∀p∈a0,p.2.2.2.2.1.length≤6)∧(∀x,r= .ret x→x=false)) (fun n i _=>mR a0 n i) a0.length
  (fun n i s hi hP=>by
   have hmem:nth aI a0 (i:Int)∈a0:=by rw[aR (t:=aI) hi];exact List.getElem_mem _
   obtain⟨b,hb,hb2⟩:=t26 _ (h _ hmem)
   simp only[mR]
   rw[if_pos (by rw[decide_eq_true_eq];omega),if_pos (by omega),hb,bs]
   cases b with
   |false=>right;exact⟨_,⟨fun u hu=>(by cases hu),fun x hx=>(by cases hx;rfl)⟩,rfl⟩
   |
    true=>
    left
    refine⟨(),?_,by rw[aJ (by have:=bu;omega)];rfl⟩
    intro p hp
    rw[List.take_succ_eq_append_getElem hi] at hp
    rcases List.mem_append.1 hp with hp|hp
    ·exact hP p hp
    ·have:p=a0[i]:=List.mem_singleton.1 hp
     subst this
     rw[aR (t:=aI) hi] at hb2
     exact hb2 rfl)
  (fun n s hP=>by
   simp only[mR]
   rw[if_neg (by rw[decide_eq_true_eq];omega)]
   exact⟨_,⟨fun u _ p hp=>hP p (by rw[List.take_length];exact hp),fun x hx=>(by cases hx)⟩,rfl⟩) bX 0 () (Nat.zero_le _) (by simp only[bX];have:=bu;omega) (fun p hp=>by simp at hp)
 have e:mR a0 bX 0=some r:=e
 unfold f6
 rw[e,bs]
 cases r with
 |
  ret x=>
  have:=hr.2 x rfl
  subst this
  exact⟨false,rfl,fun h=>by cases h⟩
 |
  bh u=>
  refine⟨_,rfl,fun hb=>⟨?_,hr.1 u rfl⟩⟩
  rw[decide_eq_true_eq] at hb
  omega
end Go.Proofs.YtjabllhapfphoaaGreatDoor
