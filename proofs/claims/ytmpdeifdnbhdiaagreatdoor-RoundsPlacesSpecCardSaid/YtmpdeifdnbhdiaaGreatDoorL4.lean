/- The program's digest of parts is the reference's digest of the whole. No condition beyond what each theorem states. -/
import Derived.Test.YtmpdeifdnbhdiaaGreatDoorL3
namespace Go.Proofs.YtmpdeifdnbhdiaaGreatDoor
open Go.Abs
def cmp(h b:List Int):List Int:=(wR h b).getD []
theorem nJ(h b:List Int)(hh:h.length=8)(hb:gN b)(hl:b.length=64):(cmp h b).length=8∧wR h b=some (cmp h b)∧iI 0 64 h b=some (cmp h b,b):=by
 obtain⟨r,h1,h2,h3⟩:=compress h b hh hb hl
 have e:cmp h b=r:=by unfold cmp;rw[h2];rfl
 rw[e]
 exact⟨h1,h2,h3⟩
def run:Nat→List Int→List Int→List Int
 |0,h,_=>h
 |n+1,h,l=>run n (cmp h (l.take 64)) (l.drop 64)
theorem ud(q q':Nat):∀h l,run (q+q') h l=run q' (run q h l) (l.drop (64*q)):=by
 induction q with
 |zero=>intro h l;simp[run]
 |
  succ q ih=>
  intro h l
  rw[show q+1+q'=(q+q')+1 by omega]
  simp only[run]
  rw[ih,List.drop_drop,show 64+64*q=64*(q+1) by omega]
theorem sC(q:Nat):∀h l l',64*q≤l.length→run q h (l++l')=run q h l:=by
 induction q with
 |zero=>intro h l l' _;rfl
 |
  succ q ih=>
  intro h l l' hl
  simp only[run]
  rw[List.take_append_of_le_length (by omega),List.drop_append_of_le_length (by omega),ih _ _ _ (by rw[List.length_drop];omega)]
theorem gN.take{l:List Int}(h:gN l)(k:Nat):gN (l.take k):=fun x hx=>h x (List.mem_of_mem_take hx)
theorem gN.drop{l:List Int}(h:gN l)(k:Nat):gN (l.drop k):=fun x hx=>h x (List.mem_of_mem_drop hx)
theorem gN.append{l l':List Int}(h:gN l)(h':gN l'):gN (l++l'):=fun x hx=>(List.mem_append.1 hx).elim (h x) (h' x)
theorem Eo(q:Nat):∀h l,h.length=8→gN l→64*q≤l.length→(run q h l).length=8:=by
 induction q with
 |zero=>intro h l hh _ _;exact hh
 |
  succ q ih=>
  intro h l hh hb hl
  simp only[run]
  exact ih _ _ (nJ h _ hh (hb.take 64) (by rw[List.length_take];omega)).1 (hb.drop 64) (by rw[List.length_drop];omega)
def St(H T:List Int)(k:Int)(h b:List Int):Prop:=k=((T.length % 64:Nat):Int)∧h=run (T.length / 64) H T∧h.length=8∧b.length=64∧gN b∧b.take (T.length % 64)=T.drop (64*(T.length / 64))
theorem B4{b l:List Int}{k:Nat}(h:k+l.length≤b.length):(iP b l k).take (k+l.length)=b.take k++l:=by
 unfold iP
 rw[List.take_append_of_le_length (by rw[List.length_append,List.length_take];omega),List.take_of_length_le (by rw[List.length_append,List.length_take];omega)]
theorem gN.iP{b l:List Int}{k:Nat}(hb:gN b)(hl:gN l):gN (iP b l k):=by
 unfold Abs.iP
 exact((hb.take k).append hl).append (hb.drop _)
theorem AG(a0:List (List Int))(x1 x2:Int):∀n(k:Nat)(l h b:List Int),k<64→l.length<n→h.length=8→b.length=64→gN b→gN l→
 ∃r:Int×aQ×bQ,cR a0 x1 x2 n (k:Int) l h b=some r∧r.1=(((k+l.length) % 64:Nat):Int)∧r.2.1=run ((k+l.length) / 64) h (b.take k++l)∧r.2.1.length=8∧r.2.2.length=64∧gN r.2.2∧r.2.2.take ((k+l.length) % 64)=(b.take k++l).drop (64*((k+l.length) / 64)):=by
 intro n
 induction n with
 |zero=>intro k l h b _ hh;omega
 |
  succ n ih=>
  intro k l h b hk hl hh hbl hb hbl'
  simp only[cR,Int.toNat_natCast]
  by_cases h0:0<l.length
  ·obtain⟨m,em,hm⟩:∃m,min l.length (64 -k)=m∧1≤m∧m≤l.length∧m≤64 -k∧(k+m<64→m=l.length):=⟨_,rfl,by omega,by omega,by omega,by omega⟩
   simp only[em]
   rw[if_pos (by rw[decide_eq_true_eq];omega),if_pos (by omega),if_pos (by omega)]
   have ew:al ((k:Int)+(m:Int))=((k+m:Nat):Int):=by rw[aN (by omega) (by omega)];rfl
   have htl:(l.take m).length=m:=by rw[List.length_take];omega
   have hsl:(iP b (l.take m) k).length=64:=by rw[zd (by rw[htl];omega)];exact hbl
   have hsb:gN (iP b (l.take m) k):=hb.iP (hbl'.take m)
   have hst:(iP b (l.take m) k).take (k+m)=b.take k++l.take m:=by
    have:=B4 (b:=b) (l:=l.take m) (k:=k) (by rw[htl];omega)
    rw[htl] at this;exact this
   simp only[ew]
   by_cases hw:((k+m:Nat):Int)=64
   ·have hkm:k+m=64:=by omega
    rw[if_pos (by simpa using hw)]
    have hfull:iP b (l.take m) k=b.take k++l.take m:=by
     have e:=hst
     rw[hkm] at e
     rw[←e]
     exact(List.take_of_length_le (by omega)).symm
    obtain⟨g1,_,g3⟩:=nJ h (iP b (l.take m) k) hh hsb hsl
    rw[show 64 -0=64 from rfl,g3,bs]
    simp only[NQ]
    obtain⟨r,e,p1,p2,p3,p4,p5,p6⟩:=ih 0 (l.drop m) (cmp h (iP b (l.take m) k)) (iP b (l.take m) k) (by omega) (by rw[List.length_drop];omega) g1 hsl hsb (hbl'.drop m)
    simp only[List.length_drop,Nat.zero_add,List.take_zero,List.nil_append] at p1 p2 p6
    have hq:(k+l.length) / 64=(l.length -m) / 64+1:=by omega
    have hr:(k+l.length) % 64=(l.length -m) % 64:=by omega
    have hsplit:b.take k++l=(b.take k++l.take m)++l.drop m:=by rw[List.append_assoc,List.take_append_drop]
    have hl64:(b.take k++l.take m).length=64:=by rw[List.length_append,List.length_take,htl];omega
    refine⟨r,e,by rw[p1,hr],?_,p3,p4,p5,?_⟩
    ·rw[p2,hq,hsplit]
     simp only[run]
     rw[List.take_left' hl64,List.drop_left' hl64,hfull]
    ·rw[hr,p6,hq,hsplit,show 64*((l.length -m) / 64+1)=64+64*((l.length -m) / 64) by omega,←List.drop_drop,List.drop_left' hl64]
   ·have Sg:k+m<64:=by omega
    have hml:m=l.length:=hm.2.2.2 Sg
    rw[if_neg (by simpa using hw)]
    simp only[NQ]
    obtain⟨r,e,p1,p2,p3,p4,p5,p6⟩:=ih (k+m) (l.drop m) h (iP b (l.take m) k) Sg (by rw[List.length_drop];omega) hh hsl hsb (hbl'.drop m)
    have hd:l.drop m= []:=List.drop_eq_nil_of_le (by omega)
    have ht:l.take m=l:=List.take_of_length_le (by omega)
    rw[hd] at p1 p2 p6
    rw[hst,ht] at p2 p6
    simp only[List.length_nil,Nat.add_zero,List.append_nil,hml] at p1 p2 p6
    exact⟨r,e,p1,p2,p3,p4,p5,p6⟩
  ·have hl0:l= []:=List.length_eq_zero_iff.1 (by omega)
   subst hl0
   rw[if_neg (by simp)]
   refine⟨((k:Int),h,b),rfl,?_,?_,hh,hbl,hb,?_⟩
   ·simp only[List.length_nil,Nat.add_zero];omega
   ·simp only[List.length_nil,Nat.add_zero];rw[show k / 64=0 by omega];rfl
   ·simp only[List.length_nil,Nat.add_zero,List.append_nil];rw[show k / 64=0 by omega,show k % 64=k by omega];rfl
end Go.Proofs.YtmpdeifdnbhdiaaGreatDoor
