/- The program's digest of parts is the reference's digest of the whole: the parts. No condition beyond what each theorem states. -/
import Derived.Test.YtmpdeifdnbhdiaaGreatDoorL4
namespace Go.Proofs.YtmpdeifdnbhdiaaGreatDoor
open Go.Abs
theorem St.more{H T l:List Int}{k:Int}{h b:List Int}(hT:St H T k h b)(a0:List (List Int))(x1 x2:Int)(n:Nat)(hn:l.length<n)(hl:gN l):
 ∃r:Int×aQ×bQ,cR a0 x1 x2 n k l h b=some r∧St H (T++l) r.1 r.2.1 r.2.2:=by
 obtain⟨hk,hh,hh8,hb64,hbb,hbt⟩:=hT
 subst hk
 obtain⟨r,e,p1,p2,p3,p4,p5,p6⟩:=AG a0 x1 x2 n (T.length % 64) l h b (Nat.mod_lt _ (by omega)) hn hh8 hb64 hbb hl
 have hr:(T.length % 64+l.length) % 64=(T++l).length % 64:=by rw[List.length_append];omega
 have hq:(T++l).length / 64=T.length / 64+(T.length % 64+l.length) / 64:=by rw[List.length_append];omega
 have hdr:(T++l).drop (64*(T.length / 64))=T.drop (64*(T.length / 64))++l:=List.drop_append_of_le_length (by omega)
 rw[hbt] at p2 p6
 refine⟨r,e,by rw[p1,hr],?_,p3,p4,p5,?_⟩
 ·rw[p2,hq,ud,sC (T.length / 64) H T l (by omega),hdr,hh]
 ·rw[←hr,p6,hq,Nat.mul_add,←List.drop_drop,hdr]
theorem uN{x:Int}(h1:0≤x)(h2:x<18446744073709551616):IntKind.u64.wrap x=x:=by
 simp only[IntKind.wrap,IntKind.bits,IntKind.signed]
 simp
 omega
theorem Ph:gN (Ty.aX bP):=by
 intro x hx
 have:x=0:=List.eq_of_mem_replicate (n:=64) hx
 omega
theorem AX(a0:List (List Int))(H:List Int)(hH:H.length=8)(ha:a0.length≤140737488355328)(hb:∀x∈a0,gN x)(hf:a0.flatten.length≤140737488355328):
 ∃r:Int×Int×aQ×bQ,cA a0 (a0.length+1) 0 0 0 H (Ty.aX bP)=some r∧r.2.1=(a0.flatten.length:Int)∧St H a0.flatten r.1 r.2.2.1 r.2.2.2:=by
 have hfl:∀i,(a0.take i).flatten.length≤a0.flatten.length:=by
  intro i
  conv=>rhs;rw[←List.take_append_drop i a0,List.flatten_append,List.length_append]
  omega
 have h:=lB (fun i(s:Int×Int×aQ×bQ)=>s.2.1=((a0.take i).flatten.length:Int)∧St H (a0.take i).flatten s.1 s.2.2.1 s.2.2.2) (fun(r:Int×Int×aQ×bQ)=>r.2.1=(a0.flatten.length:Int)∧St H a0.flatten r.1 r.2.2.1 r.2.2.2) (fun n i s=>cA a0 n s.1 s.2.1 i s.2.2.1 s.2.2.2) a0.length
  (by
   intro n i s hi hP
   left
   obtain⟨hP1,hP2⟩:=hP
   have hn:nth (.slice 1 (.int .u8)) a0 (i:Int)=a0[i]:=cS (t:=.slice 1 (.int .u8)) hi
   have etk:(a0.take (i+1)).flatten=(a0.take i).flatten++a0[i]:=by
    rw[List.take_succ_eq_append_getElem hi,List.flatten_append]
    simp
   have hlen:=hfl (i+1)
   rw[etk,List.length_append] at hlen
   obtain⟨r,e,hr⟩:=hP2.more a0 s.2.1 i bC (l:=a0[i]) (by simp only[bC];omega) (hb _ (List.getElem_mem hi))
   refine⟨(r.1,IntKind.u64.wrap (s.2.1+IntKind.u64.wrap ((a0[i].length:Nat):Int)),r.2.1,r.2.2),⟨?_,?_⟩,?_⟩
   ·rw[hP1,uN (x:=((a0[i].length:Nat):Int)) (by omega) (by omega),etk,List.length_append]
    exact uN (by omega) (by omega)
   ·rw[etk];exact hr
   ·simp only[cA,hn,e,bs,aE (show i≤_ by omega)]
    rw[if_pos (by rw[decide_eq_true_eq];omega),if_pos (by omega),bs])
  (by
   intro n s hP
   rw[List.take_length] at hP
   exact⟨s,hP,by simp[cA]⟩) (a0.length+1) 0 (0,0,H,Ty.aX bP) (by omega) (by omega)
  ⟨by simp,by simp,by simp[run],hH,rfl,Ph,by simp⟩
 obtain⟨r,hr,e⟩:=h
 exact⟨r,e,hr⟩
end Go.Proofs.YtmpdeifdnbhdiaaGreatDoor
