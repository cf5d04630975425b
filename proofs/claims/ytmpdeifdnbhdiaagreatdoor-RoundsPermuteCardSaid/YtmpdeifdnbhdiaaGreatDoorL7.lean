/- The program's digest of parts is the reference's digest of the whole. No condition beyond what each theorem states. -/
import Derived.Test.YtmpdeifdnbhdiaaGreatDoorL6
namespace Go.Proofs.YtmpdeifdnbhdiaaGreatDoor
open Go.Abs
theorem drop_nil{l:List Int}{k:Nat}(h:l.length≤k):l.drop k= []:=List.drop_eq_nil_of_le h
theorem take_set{b:List Int}{k:Nat}(v:Int)(h:k<b.length):(List.set b k v).take (k+1)=b.take k++[v]:=by
 rw[List.set_eq_take_append_cons_drop,if_pos h]
 have hl:(b.take k).length=k:=by rw[List.length_take];omega
 rw[List.take_append,hl,List.take_of_length_le (by omega),show k+1 -k=1 by omega]
 rfl
theorem D5(o1:Int×Int×aY×bS)(o14:aY×bS)(n T i:Nat)(x:List Int)(hi:i≤7)(hT:o1.2.1=(T:Int)):bZ o1 o14 (n+1) (i:Int) x=bZ o1 o14 n ((i+1:Nat):Int) (List.set x (63 -i) (lb T i)):=by
 have e1:ao ((8:Int)*(i:Int))=((8*i:Nat):Int):=by rw[aP (by omega) (by omega)];omega
 have e2:ao ((63:Int) -(i:Int))=((63 -i:Nat):Int):=by rw[aP (by omega) (by omega)];omega
 simp only[bZ,e1,e2,aK (show i≤_ by omega),hT,Int.toNat_natCast]
 rw[if_pos (by rw[decide_eq_true_eq];omega),if_pos (by omega),if_pos (by omega)]
 rfl
theorem Bg(o1:Int×Int×aY×bS)(o14:aY×bS)(T:Nat)(X:List Int)(hX:X.length=56)(hT:o1.2.1=(T:Int)):
 bZ o1 o14 (Int.toNat 8+1) 0 (X++List.replicate 8 0)=some (X++gi T):=by
 rw[show Int.toNat 8+1=8+1 from rfl,show(0:Int)=((0:Nat):Int) from rfl]
 rw[D5 o1 o14 8 T 0 _ (by omega) hT,D5 o1 o14 7 T 1 _ (by omega) hT,D5 o1 o14 6 T 2 _ (by omega) hT,D5 o1 o14 5 T 3 _ (by omega) hT,D5 o1 o14 4 T 4 _ (by omega) hT,D5 o1 o14 3 T 5 _ (by omega) hT,D5 o1 o14 2 T 6 _ (by omega) hT,D5 o1 o14 1 T 7 _ (by omega) hT]
 have hs:∀(Y:List Int) j v,List.set (X++Y) (56+j) v=X++List.set Y j v:=by
  intro Y j v
  rw[List.set_append_right _ _ (by omega),show 56+j -X.length=j by omega]
 rw[show 63 -0=56+7 from rfl,show 63 -1=56+6 from rfl,show 63 -2=56+5 from rfl,show 63 -3=56+4 from rfl,show 63 -4=56+3 from rfl,show 63 -5=56+2 from rfl,show 63 -6=56+1 from rfl,show 63 -7=56+0 from rfl]
 rw[hs,hs,hs,hs,hs,hs,hs,hs]
 simp only[bZ]
 rw[if_neg (by simp)]
 rfl
theorem De(h l:List Int)(hl:l.length=64):run 1 h l=cmp h l:=by
 simp only[run]
 rw[List.take_of_length_le (by omega)]
theorem Df(h l l':List Int)(hl:l.length=64)(hl':l'.length=64):run 2 h (l++l')=cmp (cmp h l) l':=by
 simp only[run]
 rw[List.take_left' hl,List.drop_left' hl,List.take_of_length_le (by omega)]
theorem KF(a0:List (List Int))(H:List Int)(hH:H.length=8)(ha:a0.length≤100000000000)(hb:∀x∈a0,jG x)(hf:a0.flatten.length≤100000000000):
 kX a0 H=some (run ((a0.flatten.length+72) / 64) H (pad a0.flatten))∧(run ((a0.flatten.length+72) / 64) H (pad a0.flatten)).length=8:=by
 have hbf:jG a0.flatten:=by
  intro x hx
  obtain⟨l,hl,hx⟩:=List.mem_flatten.1 hx
  exact hb l hl x hx
 obtain⟨r,e,hr1,hk,hh,h8,hb64,hbb,hbt⟩:=zk a0 H hH (by omega) hb (by omega)
 refine⟨?_,CC _ _ _ hH (B8 hbf) (by rw[B9];omega)⟩
 unfold kX
 rw[e,bs]
 revert hr1 hk hh hbt hbf hf
 generalize a0.flatten=T
 intro hf hbf hr1 hk hh hbt
 obtain⟨k,hkk,hk64⟩:∃k,T.length % 64=k∧k<64:=⟨_,rfl,Nat.mod_lt _ (by omega)⟩
 obtain⟨q,hq⟩:∃q,T.length / 64=q:=⟨_,rfl⟩
 have hTl:T.length=64*q+k:=by omega
 rw[hkk] at hk hbt
 rw[hq] at hh hbt
 have e1:ao (r.1+1)=((k+1:Nat):Int):=by rw[hk];exact aK (by omega)
 rw[e1]
 simp only[hk]
 rw[if_pos (by omega),if_pos (by omega)]
 simp only[Int.toNat_natCast,show(64:Nat) -0=64 from rfl]
 have hblk:iw (List.set r.2.2.2 k 128) (List.replicate (64 -(k+1)) 0) (k+1)=T.drop (64*q)++([128]++List.replicate (63 -k) 0):=by
  unfold iw
  rw[take_set _ (by omega),hbt,List.length_replicate,drop_nil (l:=List.set r.2.2.2 k 128) (by rw[List.length_set];omega),show 64 -(k+1)=63 -k by omega]
  simp
 have hD:(T.drop (64*q)).length=k:=by rw[List.length_drop];omega
 have hDb:jG (T.drop (64*q)):=hbf.drop _
 rw[hblk]
 have hfr:run q H (pad T)=r.2.2.1:=by
  rw[hh]
  exact qZ q H T _ (by omega)
 have hdr:(pad T).drop (64*q)=T.drop (64*q)++([128]++(List.replicate (cO T.length) 0++gi T.length)):=by
  unfold pad
  rw[List.drop_append_of_le_length (by omega)]
 by_cases hc:56<k+1
 ·rw[if_pos (by rw[decide_eq_true_eq];omega)]
  have hl1:(T.drop (64*q)++([128]++List.replicate (63 -k) (0:Int))).length=64:=by
   rw[List.length_append,hD];simp;omega
  obtain⟨g1,_,g3⟩:=pb r.2.2.1 _ h8 (hDb.append (Ef.append (oe (63 -k)))) hl1
  rw[g3,bs,bs]
  have hsp:iw (T.drop (64*q)++([128]++List.replicate (63 -k) (0:Int))) (List.replicate 64 (0:Int)) 0=List.replicate 56 (0:Int)++List.replicate 8 0:=by
   unfold iw
   rw[List.length_replicate,drop_nil (l:=T.drop (64*q)++([128]++List.replicate (63 -k) (0:Int))) (by omega)]
   rfl
  simp only[]
  rw[hsp,Bg r _ T.length (List.replicate 56 0) (by simp) hr1,bs]
  have hl2:(List.replicate 56 (0:Int)++gi T.length).length=64:=by simp[gi]
  obtain⟨_,_,p3⟩:=pb (cmp r.2.2.1 (T.drop (64*q)++([128]++List.replicate (63 -k) 0))) _ g1 ((oe 56).append (mH T.length)) hl2
  rw[p3,bs]
  rw[show(T.length+72) / 64=q+2 by omega,sA,hfr,hdr,show cO T.length=(63 -k)+56 by unfold cO;omega,←List.replicate_append_replicate]
  have:T.drop (64*q)++([128]++(List.replicate (63 -k) (0:Int)++List.replicate 56 0++gi T.length))=(T.drop (64*q)++([128]++List.replicate (63 -k) (0:Int)))++(List.replicate 56 0++gi T.length):=by
   simp only[List.append_assoc]
  rw[this,Df _ _ _ hl1 hl2]
 ·rw[if_neg (by rw[decide_eq_true_eq];omega),bs]
  simp only[]
  have hx:T.drop (64*q)++([128]++List.replicate (63 -k) (0:Int))=(T.drop (64*q)++([128]++List.replicate (55 -k) (0:Int)))++List.replicate 8 0:=by
   rw[show 63 -k=(55 -k)+8 by omega,←List.replicate_append_replicate]
   simp only[List.append_assoc]
  have hl0:(T.drop (64*q)++([128]++List.replicate (55 -k) (0:Int))).length=56:=by
   rw[List.length_append,hD];simp;omega
  rw[hx,Bg r _ T.length _ hl0 hr1,bs]
  have hl2:((T.drop (64*q)++([128]++List.replicate (55 -k) (0:Int)))++gi T.length).length=64:=by
   rw[List.length_append,hl0];simp[gi]
  obtain⟨_,_,p3⟩:=pb r.2.2.1 _ h8 ((hDb.append (Ef.append (oe (55 -k)))).append (mH T.length)) hl2
  rw[p3,bs]
  rw[show(T.length+72) / 64=q+1 by omega,sA,hfr,hdr,show cO T.length=55 -k by unfold cO;omega]
  have:T.drop (64*q)++([128]++(List.replicate (55 -k) (0:Int)++gi T.length))=(T.drop (64*q)++([128]++List.replicate (55 -k) (0:Int)))++gi T.length:=by
   simp only[List.append_assoc]
  rw[this,De _ _ hl2]
end Go.Proofs.YtmpdeifdnbhdiaaGreatDoor
