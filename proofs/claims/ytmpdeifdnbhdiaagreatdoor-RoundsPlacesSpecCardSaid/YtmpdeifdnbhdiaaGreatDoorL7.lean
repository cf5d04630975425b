/- The program's digest of parts is the reference's digest of the whole. No condition beyond what each theorem states. -/
import Derived.Test.YtmpdeifdnbhdiaaGreatDoorL6
namespace Go.Proofs.YtmpdeifdnbhdiaaGreatDoor
open Go.Abs
theorem drop_nil{l:List Int}{k:Nat}(h:l.length≤k):l.drop k= []:=List.drop_eq_nil_of_le h
theorem take_set{b:List Int}{k:Nat}(v:Int)(h:k<b.length):(List.set b k v).take (k+1)=b.take k++[v]:=by
 rw[List.set_eq_take_append_cons_drop,if_pos h]
 have hl:(b.take k).length=k:=by rw[List.length_take];omega
 rw[List.take_append,hl,List.take_of_length_le (by omega),show k+1 -k=1 by omega]
 rfl
theorem Iu(o1:Int×Int×aQ×bQ)(o14:aQ×bQ)(n T i:Nat)(x:List Int)(hi:i≤7)(hT:o1.2.1=(T:Int)):cd o1 o14 (n+1) (i:Int) x=cd o1 o14 n ((i+1:Nat):Int) (List.set x (63 -i) (lb T i)):=by
 have e1:al ((8:Int)*(i:Int))=((8*i:Nat):Int):=by rw[aN (by omega) (by omega)];omega
 have e2:al ((63:Int) -(i:Int))=((63 -i:Nat):Int):=by rw[aN (by omega) (by omega)];omega
 simp only[cd,e1,e2,aE (show i≤_ by omega),hT,Int.toNat_natCast]
 rw[if_pos (by rw[decide_eq_true_eq];omega),if_pos (by omega),if_pos (by omega)]
 rfl
theorem CW(o1:Int×Int×aQ×bQ)(o14:aQ×bQ)(T:Nat)(X:List Int)(hX:X.length=56)(hT:o1.2.1=(T:Int)):
 cd o1 o14 (Int.toNat 8+1) 0 (X++List.replicate 8 0)=some (X++fJ T):=by
 rw[show Int.toNat 8+1=8+1 from rfl,show(0:Int)=((0:Nat):Int) from rfl]
 rw[Iu o1 o14 8 T 0 _ (by omega) hT,Iu o1 o14 7 T 1 _ (by omega) hT,Iu o1 o14 6 T 2 _ (by omega) hT,Iu o1 o14 5 T 3 _ (by omega) hT,Iu o1 o14 4 T 4 _ (by omega) hT,Iu o1 o14 3 T 5 _ (by omega) hT,Iu o1 o14 2 T 6 _ (by omega) hT,Iu o1 o14 1 T 7 _ (by omega) hT]
 have hs:∀(Y:List Int) j v,List.set (X++Y) (56+j) v=X++List.set Y j v:=by
  intro Y j v
  rw[List.set_append_right _ _ (by omega),show 56+j -X.length=j by omega]
 rw[show 63 -0=56+7 from rfl,show 63 -1=56+6 from rfl,show 63 -2=56+5 from rfl,show 63 -3=56+4 from rfl,show 63 -4=56+3 from rfl,show 63 -5=56+2 from rfl,show 63 -6=56+1 from rfl,show 63 -7=56+0 from rfl]
 rw[hs,hs,hs,hs,hs,hs,hs,hs]
 simp only[cd]
 rw[if_neg (by simp)]
 rfl
theorem Fa(h l:List Int)(hl:l.length=64):run 1 h l=cmp h l:=by
 simp only[run]
 rw[List.take_of_length_le (by omega)]
theorem Fb(h l l':List Int)(hl:l.length=64)(hl':l'.length=64):run 2 h (l++l')=cmp (cmp h l) l':=by
 simp only[run]
 rw[List.take_left' hl,List.drop_left' hl,List.take_of_length_le (by omega)]
theorem Qn(a0:List (List Int))(H:List Int)(hH:H.length=8)(ha:a0.length≤100000000000)(hb:∀x∈a0,gN x)(hf:a0.flatten.length≤100000000000):
 lQ a0 H=some (run ((a0.flatten.length+72) / 64) H (pad a0.flatten))∧(run ((a0.flatten.length+72) / 64) H (pad a0.flatten)).length=8:=by
 have hbf:gN a0.flatten:=by
  intro x hx
  obtain⟨l,hl,hx⟩:=List.mem_flatten.1 hx
  exact hb l hl x hx
 obtain⟨r,e,hr1,hk,hh,h8,hb64,hbb,hbt⟩:=AX a0 H hH (by omega) hb (by omega)
 refine⟨?_,Eo _ _ _ hH (yQ hbf) (by rw[tN];omega)⟩
 unfold lQ
 rw[e,bs]
 revert hr1 hk hh hbt hbf hf
 generalize a0.flatten=T
 intro hf hbf hr1 hk hh hbt
 obtain⟨k,hkk,hk64⟩:∃k,T.length % 64=k∧k<64:=⟨_,rfl,Nat.mod_lt _ (by omega)⟩
 obtain⟨q,hq⟩:∃q,T.length / 64=q:=⟨_,rfl⟩
 have hTl:T.length=64*q+k:=by omega
 rw[hkk] at hk hbt
 rw[hq] at hh hbt
 have e1:al (r.1+1)=((k+1:Nat):Int):=by rw[hk];exact aE (by omega)
 rw[e1]
 simp only[hk]
 rw[if_pos (by omega),if_pos (by omega)]
 simp only[Int.toNat_natCast,show(64:Nat) -0=64 from rfl]
 have hblk:iP (List.set r.2.2.2 k 128) (List.replicate (64 -(k+1)) 0) (k+1)=T.drop (64*q)++([128]++List.replicate (63 -k) 0):=by
  unfold iP
  rw[take_set _ (by omega),hbt,List.length_replicate,drop_nil (l:=List.set r.2.2.2 k 128) (by rw[List.length_set];omega),show 64 -(k+1)=63 -k by omega]
  simp
 have hD:(T.drop (64*q)).length=k:=by rw[List.length_drop];omega
 have hDb:gN (T.drop (64*q)):=hbf.drop _
 rw[hblk]
 have SK:run q H (pad T)=r.2.2.1:=by
  rw[hh]
  exact sC q H T _ (by omega)
 have hdr:(pad T).drop (64*q)=T.drop (64*q)++([128]++(List.replicate (cD T.length) 0++fJ T.length)):=by
  unfold pad
  rw[List.drop_append_of_le_length (by omega)]
 by_cases hc:56<k+1
 ·rw[if_pos (by rw[decide_eq_true_eq];omega)]
  have hl1:(T.drop (64*q)++([128]++List.replicate (63 -k) (0:Int))).length=64:=by
   rw[List.length_append,hD];simp;omega
  obtain⟨g1,_,g3⟩:=nJ r.2.2.1 _ h8 (hDb.append (ID.append (pj (63 -k)))) hl1
  rw[g3,bs,bs]
  have hsp:iP (T.drop (64*q)++([128]++List.replicate (63 -k) (0:Int))) (List.replicate 64 (0:Int)) 0=List.replicate 56 (0:Int)++List.replicate 8 0:=by
   unfold iP
   rw[List.length_replicate,drop_nil (l:=T.drop (64*q)++([128]++List.replicate (63 -k) (0:Int))) (by omega)]
   rfl
  simp only[]
  rw[hsp,CW r _ T.length (List.replicate 56 0) (by simp) hr1,bs]
  have hl2:(List.replicate 56 (0:Int)++fJ T.length).length=64:=by simp[fJ]
  obtain⟨_,_,p3⟩:=nJ (cmp r.2.2.1 (T.drop (64*q)++([128]++List.replicate (63 -k) 0))) _ g1 ((pj 56).append (nD T.length)) hl2
  rw[p3,bs]
  rw[show(T.length+72) / 64=q+2 by omega,ud,SK,hdr,show cD T.length=(63 -k)+56 by unfold cD;omega,←List.replicate_append_replicate]
  have:T.drop (64*q)++([128]++(List.replicate (63 -k) (0:Int)++List.replicate 56 0++fJ T.length))=(T.drop (64*q)++([128]++List.replicate (63 -k) (0:Int)))++(List.replicate 56 0++fJ T.length):=by
   simp only[List.append_assoc]
  rw[this,Fb _ _ _ hl1 hl2]
 ·rw[if_neg (by rw[decide_eq_true_eq];omega),bs]
  simp only[]
  have hx:T.drop (64*q)++([128]++List.replicate (63 -k) (0:Int))=(T.drop (64*q)++([128]++List.replicate (55 -k) (0:Int)))++List.replicate 8 0:=by
   rw[show 63 -k=(55 -k)+8 by omega,←List.replicate_append_replicate]
   simp only[List.append_assoc]
  have hl0:(T.drop (64*q)++([128]++List.replicate (55 -k) (0:Int))).length=56:=by
   rw[List.length_append,hD];simp;omega
  rw[hx,CW r _ T.length _ hl0 hr1,bs]
  have hl2:((T.drop (64*q)++([128]++List.replicate (55 -k) (0:Int)))++fJ T.length).length=64:=by
   rw[List.length_append,hl0];simp[fJ]
  obtain⟨_,_,p3⟩:=nJ r.2.2.1 _ h8 ((hDb.append (ID.append (pj (55 -k)))).append (nD T.length)) hl2
  rw[p3,bs]
  rw[show(T.length+72) / 64=q+1 by omega,ud,SK,hdr,show cD T.length=55 -k by unfold cD;omega]
  have:T.drop (64*q)++([128]++(List.replicate (55 -k) (0:Int)++fJ T.length))=(T.drop (64*q)++([128]++List.replicate (55 -k) (0:Int)))++fJ T.length:=by
   simp only[List.append_assoc]
  rw[this,Fa _ _ hl2]
theorem Q2(a0:List (List Int))(ha:a0.length≤1000)(hx:∀x∈a0,x.length≤1000)(hb:∀x∈a0,gN x):f42 a0=JI a0.flatten:=by
 have hf:a0.flatten.length≤1000000:=by
  have:∀l:List (List Int),(∀x∈l,x.length≤1000)→l.flatten.length≤1000*l.length:=by
   intro l
   induction l with
   |nil=>intro _;simp
   |
    cons a l ih=>
    intro h
    have h1:=h a (by simp)
    have h2:=ih (fun x hx=>h x (by simp[hx]))
    rw[List.flatten_cons,List.length_append,List.length_cons]
    omega
  have:=this a0 hx
  omega
 have hbf:gN a0.flatten:=by
  intro x hx
  obtain⟨l,hl,hx⟩:=List.mem_flatten.1 hx
  exact hb l hl x hx
 obtain⟨g,_⟩:=Qn a0 [(1779033703:Int),(3144134277:Int),(1013904242:Int),(2773480762:Int),(1359893119:Int),(2600822924:Int),(528734635:Int),(1541459225:Int)] rfl (by omega) hb (by omega)
 have p1:=IE (pad a0.flatten) ((a0.flatten.length+72) / 64) (tN _) (yQ hbf) (by rw[tN];omega) _ bC 0 [(1779033703:Int),(3144134277:Int),(1013904242:Int),(2773480762:Int),(1359893119:Int),(2600822924:Int),(528734635:Int),(1541459225:Int)] rfl (by omega) (by simp only[bC];omega) rfl
 rw[Nat.sub_zero,Nat.mul_zero,List.drop_zero,show((0:Nat):Int)=0 from rfl] at p1
 unfold f42 JI
 rw[g,bs,Og _ (by omega),bs,p1,bs]
 obtain⟨r,hr⟩:=JW (run ((a0.flatten.length+72) / 64) [(1779033703:Int),(3144134277:Int),(1013904242:Int),(2773480762:Int),(1359893119:Int),(2600822924:Int),(528734635:Int),(1541459225:Int)] (pad a0.flatten)) (Ty.aX aD)
 rw[hr,bs]
 rw[IF] at hr
 have hr2:=IG _ _ bC _ _ _ (by simp[bC]) hr
 rw[show List.replicate 32 (0:Int)=Ty.aX aD from rfl,hr2,bs]
end Go.Proofs.YtmpdeifdnbhdiaaGreatDoor
