/- ViewsSeen's printed function answers true. No condition beyond what each theorem states. -/
import Derived.Test.YtjabllhapfphoaaGreatDoorV1
namespace Go.Proofs.YtjabllhapfphoaaGreatDoor
open Go.Abs
def EP(p:cI)(s:l3):dz:=(p.1,(s.2.2.2.2.2.2.2.2.1,((p.2.1,(s.2.1,(s.2.2.2.2.2.1,(s.2.2.2.2.2.2.1,())))),())))
def mu(c:List Int)(p:cI):List dz:=if p.1∈c then p.2.2.2.2.1.map (EP p) else[]
def sg(c:List Int)(l:List cI):List dz:=(l.map (mu c)).flatten
theorem Fu(c:List Int)(l m:List cI):sg c (l++m)=sg c l++sg c m:=by simp[sg]
theorem Fv(c:List Int)(p:cI):sg c [p]=mu c p:=by simp[sg]
theorem sZ{c:List Int}{l:List cI}{i:Nat}(h:i<l.length):sg c (l.take (i+1))=sg c (l.take i)++mu c l[i]:=by
 rw[List.take_succ_eq_append_getElem h,Fu,Fv]
theorem AI(c:List Int)(p:cI):(mu c p).length=if p.1∈c then p.2.2.2.2.1.length else 0:=by
 unfold mu;split<;>simp
theorem s6(c:List Int):∀l:List cI,(∀p∈l,p.2.2.2.2.1.length≤6)→(sg c l).length≤6*l.length
 |[],_=>by simp[sg]
 |
  p::l,h=>by
  have h1:=s6 c l (fun q hq=>h q (List.mem_cons_of_mem _ hq))
  have h2:=h p (List.mem_cons_self ..)
  have e:sg c (p::l)=mu c p++sg c l:=by simp[sg]
  rw[e,List.length_append,AI,List.length_cons]
  split<;>omega
theorem K0(c:List Int)(v:Int)(h:c.length≤az):f71 c v=some (decide (v∈c)):=by
 have hm:=bu
 obtain⟨r,hr,e⟩:=cE (σ:=Unit) (fun i _=>v∉c.take i) (fun r:c6 Unit Int=>(∃u,r= .bh u∧v∉c)∨(∃j:Nat,r= .ret (j:Int)∧v∈c)) (fun n i _=>gB c v n i) c.length
  (fun n i s hi hP=>by
   simp only[gB]
   rw[if_pos (by rw[decide_eq_true_eq];omega),if_pos (by omega),aR (t:=.int .i64) hi]
   by_cases hv:v=c[i]
   ·right
    rw[if_pos (by rw[decide_eq_true_eq];exact hv)]
    exact⟨_,Or.inr ⟨i,rfl,by rw[hv];exact List.getElem_mem _⟩,rfl⟩
   ·left
    rw[if_neg (by rw[decide_eq_true_eq];exact hv)]
    refine⟨(),?_,by rw[aJ (by omega)]⟩
    rw[List.take_succ_eq_append_getElem hi]
    intro hmem
    rcases List.mem_append.1 hmem with h1|h1
    ·exact hP h1
    ·exact hv (List.mem_singleton.1 h1))
  (fun n s hP=>by
   simp only[gB]
   rw[if_neg (by rw[decide_eq_true_eq];omega)]
   exact⟨_,Or.inl ⟨(),rfl,by rw[List.take_length] at hP;exact hP⟩,rfl⟩) (c.length+1) 0 () (Nat.zero_le _) (by omega) (by simp)
 have e:gB c v (c.length+1) 0=some r:=e
 unfold f71 f132
 rw[e,bs]
 rcases hr with⟨u,rfl,hn⟩|⟨j,rfl,hy⟩
 ·simp only[bs]
  congr 1
  rw[decide_eq_false hn];rfl
 ·simp only[bs]
  congr 1
  rw[decide_eq_true hy]
  exact decide_eq_true (Int.natCast_nonneg j)
theorem IH(l:List Int)(h:l.length*8≤az):f30 l=some l:=by
 unfold f30
 rw[if_pos (by simpa using h)]
theorem Fw(a0:List cI)(a1:List Int)(i:Nat)(hi:i<a0.length)(hw:wf aI a0[i])(acc:List dz)(hb:(acc.length+a0[i].2.2.2.2.1.length)*104≤az):
 dS a0 a1 eT (i:Int) (a0[i].2.2.2.2.1.length+1) 0 acc=some (.bh (acc++a0[i].2.2.2.2.1.map (EP a0[i]))):=by
 have hm:=bu
 obtain⟨h1,h2,_⟩:=pC hw
 have hn:nth aI a0 (i:Int)=a0[i]:=aR (t:=aI) hi
 obtain⟨r,hr,e⟩:=cE (fun j s=>s=acc++(a0[i].2.2.2.2.1.take j).map (EP a0[i])) (fun r=>r=c6.bh (acc++a0[i].2.2.2.2.1.map (EP a0[i]))) (fun n j s=>dS a0 a1 eT (i:Int) n j s) a0[i].2.2.2.2.1.length
  (fun n j s hj hP=>by
   left
   have hs:=aR (t:=a8) (xs:=a0[i].2.2.2.2.1) hj
   have hwj:=yg (h2 a0[i].2.2.2.2.1[j] (List.getElem_mem _))
   refine⟨acc++(a0[i].2.2.2.2.1.take (j+1)).map (EP a0[i]),rfl,?_⟩
   simp only[dS]
   rw[hn,if_pos (by rw[decide_eq_true_eq];omega),if_pos (by omega),hs,IH _ hwj.2.1,bs,IH _ hwj.2.2,bs]
   unfold eT
   have hlen:s.length=acc.length+j:=by rw[hP];simp;omega
   rw[if_pos (by
    show(List.length s+1)*104≤az
    rw[hlen];omega),bs]
   simp only[]
   rw[aJ (by omega),hP,List.take_succ_eq_append_getElem hj,List.map_append,List.append_assoc]
   rfl)
  (fun n s hP=>by
   simp only[dS]
   rw[hn,if_neg (by rw[decide_eq_true_eq];omega)]
   exact⟨_,by rw[hP,List.take_length],rfl⟩) (a0[i].2.2.2.2.1.length+1) 0 acc (Nat.zero_le _) (by omega) (by simp)
 rw[hr] at e
 exact e
theorem I5(a0:List cI)(c:List Int)(hl:a0.length≤8)(hc:c.length≤az)(hw:∀p∈a0,wf aI p)(h6:∀p∈a0,p.2.2.2.2.1.length≤6):f16 a0 c=some (sg c a0):=by
 have hm:=bu
 obtain⟨r,hr,e⟩:=cE (fun i s=>s=sg c (a0.take i)) (fun r=>r=c6.bh (sg c a0)) (fun n i s=>dU a0 c eT n i s) a0.length
  (fun n i s hi hP=>by
   left
   refine⟨sg c (a0.take (i+1)),rfl,?_⟩
   have hn:nth aI a0 (i:Int)=a0[i]:=aR (t:=aI) hi
   have hmem:a0[i]∈a0:=List.getElem_mem _
   simp only[dU]
   rw[if_pos (by rw[decide_eq_true_eq];omega),if_pos (by omega),hn,K0 c _ hc,bs,aJ (by omega)]
   by_cases hin:a0[i].1∈c
   ·have hsl:s.length≤48:=by
     rw[hP]
     have:=s6 c (a0.take i) (fun p hp=>h6 p (List.mem_of_mem_take hp))
     rw[List.length_take] at this
     omega
    have h6i:=h6 _ hmem
    rw[if_neg (by rw[decide_eq_true hin];simp),Fw a0 c i hi (hw _ hmem) s (by omega),bs]
    simp only[bs]
    rw[sZ hi,←hP]
    unfold mu
    rw[if_pos hin]
   ·rw[if_pos (by rw[decide_eq_false hin];simp)]
    simp only[bs]
    rw[sZ hi,←hP]
    unfold mu
    rw[if_neg hin,List.append_nil])
  (fun n s hP=>by
   simp only[dU]
   rw[if_neg (by rw[decide_eq_true_eq];omega)]
   exact⟨_,by rw[hP,List.take_length],rfl⟩) (a0.length+1) 0 [] (Nat.zero_le _) (by omega) (by simp[sg])
 rw[hr] at e
 have e:dU a0 c eT (a0.length+1) 0 []=some (.bh (sg c a0)):=e
 unfold f16 tM tP tO tN
 simp only[bs]
 rw[e,bs]
 simp only[bs]
 rfl
end Go.Proofs.YtjabllhapfphoaaGreatDoor
