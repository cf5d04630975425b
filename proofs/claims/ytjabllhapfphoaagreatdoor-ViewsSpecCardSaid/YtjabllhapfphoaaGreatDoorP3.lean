/- ViewsSpec's printed function answers true. No condition beyond what each theorem states. -/
import Derived.Test.YtjabllhapfphoaaGreatDoorP1
import Derived.Test.YtjabllhapfphoaaGreatDoorP2
namespace Go.Proofs.YtjabllhapfphoaaGreatDoor
open Go.Abs
theorem wZ(F:Nat→Int→Option (c6 Unit Bool))(N:Nat)(hm:N≤az)(hs:∀n(i:Nat),i<N→F (n+1) (i:Int)=F n (aP ((i:Int)+1)))(he:∀n,F (n+1) ((N:Nat):Int)=some (.bh ())):F bX 0=some (.bh ()):=by
 have hB:=bu
 obtain⟨r,hr,e⟩:=cE (σ:=Unit) (fun _ _=>True) (fun r=>r= .bh ()) (fun n i _=>F n i) N
  (fun n i s hi _=>Or.inl ⟨(),trivial,by show F (n+1) i=_;rw[hs n i hi,aJ (by omega)]⟩)
  (fun n s _=>⟨_,rfl,he n⟩) bX 0 () (Nat.zero_le _) (by have:=vJ hm;omega) trivial
 rw[hr] at e
 exact e
def GI(s:l3):AB:=(s.1,(s.2.1,(s.2.2.1,(s.2.2.2.1,(s.2.2.2.2.2.1,(s.2.2.2.2.2.2.1,(s.2.2.2.2.2.2.2.1,())))))))
def IU(p:cI):AD:=(p.1,(p.2.1,(p.2.2.1,(p.2.2.2.1,(p.2.2.2.2.1.map GI,())))))
theorem KT(p:cI)(h:wf aI p)(h6:p.2.2.2.2.1.length≤6):f10 p=some (IU p):=by
 have hm:=bu
 obtain⟨h1,h2,_⟩:=pC h
 obtain⟨r,hr,e⟩:=cE (fun j s=>s=(p.2.2.2.2.1.take j).map GI) (fun r=>r=p.2.2.2.2.1.map GI) (fun n j s=>jB p n j s) p.2.2.2.2.1.length
  (fun n j s hj hP=>by
   left
   refine⟨_,rfl,?_⟩
   have hw:=yg (h2 p.2.2.2.2.1[j] (List.getElem_mem _))
   simp only[jB]
   rw[if_pos (gC hj),if_pos (fA hj),aR (t:=a8) hj,IH _ hw.2.1,bs,IH _ hw.2.2,bs,if_pos (by rw[hP];simp only[List.length_map,List.length_take,List.length_cons,List.length_nil];omega),aJ (by omega),List.take_succ_eq_append_getElem hj,List.map_append,←hP]
   rfl)
  (fun n s hP=>by
   simp only[jB]
   rw[if_neg gD]
   exact⟨_,by rw[hP,List.take_length],rfl⟩) (p.2.2.2.2.1.length+1) 0 [] (Nat.zero_le _) (by omega) (by simp)
 unfold f10
 rw[hr] at e
 have e:jB p (p.2.2.2.2.1.length+1) 0 []=_:=e
 rw[e,bs]
 rfl
theorem KU(p:cI)(h6:p.2.2.2.2.1.length≤6):f11 p=some (IU p):=by
 have hm:=bu
 obtain⟨r,hr,e⟩:=cE (fun j s=>s=(p.2.2.2.2.1.take j).map GI) (fun r=>r=p.2.2.2.2.1.map GI) (fun n j s=>jC p n j s) p.2.2.2.2.1.length
  (fun n j s hj hP=>by
   left
   refine⟨_,rfl,?_⟩
   simp only[jC]
   rw[if_pos (gC hj),if_pos (fA hj),aR (t:=a8) hj,if_pos (by rw[hP];simp only[List.length_map,List.length_take,List.length_cons,List.length_nil];omega),aJ (by omega),List.take_succ_eq_append_getElem hj,List.map_append,←hP]
   rfl)
  (fun n s hP=>by
   simp only[jC]
   rw[if_neg gD]
   exact⟨_,by rw[hP,List.take_length],rfl⟩) bX 0 [] (Nat.zero_le _) (by simp only[bX];omega) (by simp)
 unfold f11
 rw[hr] at e
 have e:jC p bX 0 []=_:=e
 rw[e,bs]
 rfl
theorem CQ(l:List Int)(h:l.length≤az):f29 l l=some true:=by rw[K7 l l h,dB kr]
theorem Kb(x:Int):(!decide (x=x))=false:=by rw[decide_eq_true rfl];rfl
theorem IG(x:aU):(!av ao x x)=false:=by rw[cN];rfl
theorem mr{α:Type}{x y:α}:(if false=true then x else y)=y:=rfl
theorem nf{α:Type}{x y:α}:(if(!false)=true then x else y)=x:=rfl
theorem nt{α:Type}{x y:α}:(if(!true)=true then x else y)=y:=rfl
theorem dT:(!decide True)=false:=rfl
theorem e9(x:AD)(hl:x.2.2.2.2.1.length≤az)(hx:∀s∈x.2.2.2.2.1,s.2.2.2.2.1.length≤az∧s.2.2.2.2.2.1.length≤az):f9 x x=some true:=by
 unfold f9
 have h:=wZ (oI x x) x.2.2.2.2.1.length hl
  (fun n i hi=>by
   have hw:=hx _ (List.getElem_mem hi)
   simp only[oI]
   rw[if_pos (gC hi),if_pos (fA hi),if_pos (mS hi),aR (t:=dc) hi]
   simp only[dT,mr]
   rw[CQ _ hw.1,bs,CQ _ hw.2,bs]
   rfl)
  (fun n=>by simp only[oI];rw[if_neg gD])
 simp only[dT,IG,mr]
 rw[bs,mr,bs]
 rw[h,bs]
def pk(s:eu):aU:=(f28 s.1).getD []
theorem IV{x:aU}(h:wf ao x):Dg x:=by
 refine⟨h.1,fun v hv=>?_⟩
 have h:=h.2 v hv
 have a:(0:Int)≤v:=h.1
 have b:v≤(255:Int):=h.2
 exact⟨a,by omega⟩
theorem EM{s:eu}(h:wf cn s):f24 s.1=some (pk s)∧f28 s.1=some (pk s):=by
 obtain⟨r,_,g1,g2⟩:=d24 s.1 (IV h.1)
 unfold pk
 rw[g2]
 exact⟨g1,rfl⟩
def ff(l:List eu)(k:aU):Nat:=l.findIdx fun s=>decide (pk s=k)
theorem EN{l:List eu}{k:aU}{i:Nat}(hi:i<l.length)(h:pk l[i]=k):ff l k≤i:=by
 refine Nat.le_of_not_lt fun hlt=>?_
 have:=List.not_of_lt_findIdx hlt
 rw[decide_eq_false_iff_not] at this
 exact this h
theorem AF{l:List eu}{k:aU}(h:ff l k<l.length):pk (l[ff l k]'h)=k:=by
 have:=List.findIdx_getElem (w:=h)
 rwa [decide_eq_true_eq] at this
theorem GS:Ty.keyed ao=true:=rfl
theorem GU(p:cI)(l:List eu)(hl:l.length≤6)(hw:∀s∈l,wf cn s):
 ∃m:List (aU×Int),(∀k:aU,(dW ao k m=true↔ff l k<l.length)∧(ff l k<l.length→eN ao (.int .i64) k m=(ff l k:Int)))∧mT p l (l.length+1) 0 []=some m:=by
 have hm:=bu
 have h:=
  cE (fun i(m:List (aU×Int))=>m.length≤i∧∀k:aU,(dW ao k m=true↔ff l k<i)∧(ff l k<i→eN ao (.int .i64) k m=(ff l k:Int)))
  (fun m=>∀k:aU,(dW ao k m=true↔ff l k<l.length)∧(ff l k<l.length→eN ao (.int .i64) k m=(ff l k:Int))) (fun n i m=>mT p l n i m) l.length
  (fun n i m hi hP=>by
   left
   obtain⟨hlen,hP⟩:=hP
   have hpk:=(EM (hw _ (List.getElem_mem hi))).1
   have hle:ff l (pk l[i])≤i:=EN hi rfl
   simp only[mT]
   rw[if_pos (gC hi),if_pos (fA hi),aR (t:=cn) hi,hpk,bs,aJ (by omega)]
   by_cases hh:dW ao (pk l[i]) m=true
   ·refine⟨m,⟨by omega,fun k=>?_⟩,by rw[hh,if_neg (by simp),bs]⟩
    have hlt:=(hP _).1.1 hh
    have hne:ff l k≠i:=fun e=>by
     have:=AF (l:=l) (k:=k) (by omega)
     simp only[e] at this
     rw[this] at hlt
     omega
    have:ff l k<i+1↔ff l k<i:=by omega
    rw[this]
    exact hP k
   ·have hh':dW ao (pk l[i]) m=false:=by simpa using hh
    have hei:ff l (pk l[i])=i:=by
     have:¬ff l (pk l[i])<i:=fun x=>hh ((hP _).1.2 x)
     omega
    refine⟨dN ao (pk l[i]) (i:Int) m,⟨?_,fun k=>?_⟩,by rw[hh',if_pos (by rfl),if_pos (by omega),bs]⟩
    ·have:∀es:List (aU×Int),(dN ao (pk l[i]) (i:Int) es).length≤es.length+1:=by
      intro es
      induction es with
      |nil=>simp[dN]
      |cons e es ih=>simp only[dN];split<;>simp only[List.length_cons]<;>omega
     exact Nat.le_trans (this m) (by omega)
    ·by_cases hk:k=pk l[i]
     ·subst hk
      rw[kJ GS,hei]
      exact⟨⟨fun _=>by omega,fun _=>rfl⟩,fun _=>kK (vt:=.int .i64) GS _ _ _⟩
     ·rw[nu GS hk]
      have hne:ff l k≠i:=fun e=>by
       have:=AF (l:=l) (k:=k) (by omega)
       simp only[e] at this
       exact hk this.symm
      have:ff l k<i+1↔ff l k<i:=by omega
      rw[this]
      refine⟨(hP k).1,fun hx=>?_⟩
      exact(nv (vt:=.int .i64) GS hk _ _).trans ((hP k).2 hx))
  (fun n m hP=>by
   simp only[mT]
   rw[if_neg gD]
   exact⟨_,hP.2,rfl⟩) (l.length+1) 0 [] (Nat.zero_le _) (by omega) ⟨Nat.le_refl _,fun k=>⟨by simp[dW],fun hx=>by omega⟩⟩
 obtain⟨r,hr,e⟩:=h
 exact⟨r,hr,e⟩
def gt(l:List eu)(s:l3):eu:=l.getD (ff l s.2.2.2.2.1) (Ty.aS cn)
def Aw(l:List eu)(s:l3):Bool:=decide (ff l s.2.2.2.2.1<l.length)
def cr(l:List eu)(x:List l3):c6 (List eu) (List eu×Int):=if x.all (Aw l)=true then .bh (x.map (gt l)) else .ret ([],290)
theorem EO{l:List eu}{x:List l3}{i:Nat}(hi:i<x.length)(h:Aw l x[i]=false):cr l x= .ret ([],290):=by
 unfold cr
 rw[if_neg]
 intro ha
 have:=List.all_eq_true.1 ha _ (List.getElem_mem hi)
 rw[h] at this
 cases this
theorem AG{l:List eu}{x:List l3}(h:∀s∈x,Aw l s=true):cr l x= .bh (x.map (gt l)):=by
 unfold cr
 rw[if_pos (List.all_eq_true.2 h)]
theorem AH{l:List eu}{x:List l3}{i:Nat}(hi:i<x.length)(h:∀s∈x.take i,Aw l s=true)(hk:Aw l x[i]=true):∀s∈x.take (i+1),Aw l s=true:=by
 intro s hs
 rw[List.take_succ_eq_append_getElem hi] at hs
 rcases List.mem_append.1 hs with hs|hs
 ·exact h s hs
 ·rw[List.mem_singleton.1 hs];exact hk
theorem e7(
 p:cI) (l:List eu) (hl:l.length≤6) (hw:∀s∈l,wf cn s) (h6:p.2.2.2.2.1.length≤6):
 f7 p l=some (match cr l p.2.2.2.2.1 with| .bh v=>(v,0)| .ret r=>r):=by
 have hm:=bu
 unfold f7
 by_cases h0:p.2.2.2.2.1.length=0
 ·rw[if_pos (by rw[decide_eq_true_eq];omega)]
  have:p.2.2.2.2.1= []:=List.eq_nil_of_length_eq_zero h0
  rw[this]
  rfl
 ·obtain⟨m,hmm,e1⟩:=GU p l hl hw
  rw[if_neg (by rw[decide_eq_true_eq];omega),e1,bs]
  obtain⟨r,hr,e⟩:=cE (fun j s=>s=(p.2.2.2.2.1.take j).map (gt l)∧∀x∈p.2.2.2.2.1.take j,Aw l x=true) (fun r=>r=cr l p.2.2.2.2.1) (fun n j s=>mU p l m n j s) p.2.2.2.2.1.length
   (fun n j s hj hP=>by
    obtain⟨hP,hA⟩:=hP
    obtain⟨Gb,xu⟩:=hmm p.2.2.2.2.1[j].2.2.2.2.1
    simp only[mU]
    rw[if_pos (gC hj),if_pos (fA hj),aR (t:=a8) hj]
    by_cases hx:ff l p.2.2.2.2.1[j].2.2.2.2.1<l.length
    ·left
     have hok:Aw l p.2.2.2.2.1[j]=true:=decide_eq_true hx
     refine⟨_,⟨rfl,AH hj hA hok⟩,?_⟩
     have hl32:(l[ff l p.2.2.2.2.1[j].2.2.2.2.1]).2.1.length*32≤az:=(hw _ (List.getElem_mem hx)).2.1.1
     rw[Gb.2 hx,if_neg (by simp),xu hx,if_pos (fA hx),aR (t:=cn) hx]
     have e27:f27 (l[ff l p.2.2.2.2.1[j].2.2.2.2.1]).2.1=some (l[ff l p.2.2.2.2.1[j].2.2.2.2.1]).2.1:=by
      unfold f27;rw[if_pos (by simpa using hl32)]
     rw[e27,bs,if_pos (by rw[hP];simp only[List.length_map,List.length_take,List.length_cons,List.length_nil];omega),aJ (by omega),List.take_succ_eq_append_getElem hj,List.map_append,←hP]
     have hg:gt l p.2.2.2.2.1[j]=l[ff l p.2.2.2.2.1[j].2.2.2.2.1]:=by unfold gt;rw[List.getD_eq_getElem?_getD,List.getElem?_eq_getElem hx];rfl
     rw[List.map_singleton,hg]
    ·right
     refine⟨_,rfl,?_⟩
     have hn:dW ao p.2.2.2.2.1[j].2.2.2.2.1 m=false:=by
      cases hc:dW ao p.2.2.2.2.1[j].2.2.2.2.1 m with
      |false=>rfl
      |true=>exact absurd (Gb.1 hc) hx
     rw[hn,nf,EO hj (decide_eq_false hx)])
   (fun n s hP=>by
    obtain⟨hP,hA⟩:=hP
    rw[List.take_length] at hP hA
    simp only[mU]
    rw[if_neg gD]
    exact⟨_,rfl,by rw[AG hA,hP]⟩) (p.2.2.2.2.1.length+1) 0 [] (Nat.zero_le _) (by omega) ⟨by simp,by simp⟩
  rw[hr] at e
  have e:mU p l m (p.2.2.2.2.1.length+1) 0 []=_:=e
  rw[e,bs]
  cases cr l p.2.2.2.2.1<;>rfl
theorem Fl{x y:aU}(h:x≠y):av ao x y=false:=kI (kt:=ao) GS h
theorem GV(p:cI)(l:List eu)(hl:l.length≤6)(hw:∀s∈l,wf cn s)(j:Nat)(hj:j<p.2.2.2.2.1.length)(u:List eu):mV p l (j:Int) u bX 0=some (ff l p.2.2.2.2.1[j].2.2.2.2.1:Int):=by
 obtain⟨r,hr,e⟩:=cE (σ:=Unit) (fun i _=>i≤ff l p.2.2.2.2.1[j].2.2.2.2.1) (fun r=>r=(ff l p.2.2.2.2.1[j].2.2.2.2.1:Int)) (fun n i _=>mV p l (j:Int) u n i) l.length
  (fun n i s hi hP=>by
   have hpk:=(EM (hw _ (List.getElem_mem hi))).2
   simp only[mV]
   rw[if_pos (gC hi),if_pos (fA hi),aR (t:=cn) hi,hpk,bs,if_pos (fA hj),aR (t:=a8) hj]
   by_cases hx:pk l[i]=p.2.2.2.2.1[j].2.2.2.2.1
   ·right
    have hle:=EN hi hx
    have:ff l p.2.2.2.2.1[j].2.2.2.2.1=i:=by omega
    refine⟨_,rfl,?_⟩
    rw[hx,IG,bs,mr,bs,this]
   ·left
    refine⟨(),?_,?_⟩
    ·have:ff l p.2.2.2.2.1[j].2.2.2.2.1≠i:=fun e=>by
      have:=AF (l:=l) (k:=p.2.2.2.2.1[j].2.2.2.2.1) (by omega)
      simp only[e] at this
      exact hx this
     omega
    ·rw[Fl hx,bs,nf,bs,aJ (by omega)])
  (fun n s hP=>by
   simp only[mV]
   have:ff l p.2.2.2.2.1[j].2.2.2.2.1≤l.length:=List.findIdx_le_length
   rw[if_neg gD,bs,mr,bs]
   exact⟨_,by omega,rfl⟩) bX 0 () (Nat.zero_le _) (by simp only[bX];omega) (Nat.zero_le _)
 rw[hr] at e
 exact e
theorem e8(p:cI)(l:List eu)(hl:l.length≤6)(hw:∀s∈l,wf cn s)(h6:p.2.2.2.2.1.length≤6):
 f8 p l=some (match cr l p.2.2.2.2.1 with| .bh v=>(v,0)| .ret r=>r):=by
 have hm:=bu
 unfold f8
 obtain⟨r,hr,e⟩:=cE (fun j s=>s=(p.2.2.2.2.1.take j).map (gt l)∧∀x∈p.2.2.2.2.1.take j,Aw l x=true) (fun r=>r=cr l p.2.2.2.2.1) (fun n j s=>mW p l n j s) p.2.2.2.2.1.length
  (fun n j s hj hP=>by
   obtain⟨hP,hA⟩:=hP
   have hle:ff l p.2.2.2.2.1[j].2.2.2.2.1≤l.length:=List.findIdx_le_length
   simp only[mW]
   rw[if_pos (gC hj),GV p l hl hw j hj,bs]
   by_cases hx:ff l p.2.2.2.2.1[j].2.2.2.2.1<l.length
   ·left
    have hok:Aw l p.2.2.2.2.1[j]=true:=decide_eq_true hx
    refine⟨_,⟨rfl,AH hj hA hok⟩,?_⟩
    have hg:gt l p.2.2.2.2.1[j]=l[ff l p.2.2.2.2.1[j].2.2.2.2.1]:=by unfold gt;rw[List.getD_eq_getElem?_getD,List.getElem?_eq_getElem hx];rfl
    rw[if_neg (by rw[decide_eq_true_eq];omega),if_pos (by omega),aR (t:=cn) hx,if_pos (by rw[hP];simp only[List.length_map,List.length_take,List.length_cons,List.length_nil];omega),bs]
    simp only[]
    rw[aJ (by omega),List.take_succ_eq_append_getElem hj,List.map_append,←hP,List.map_singleton,hg]
   ·right
    refine⟨_,rfl,?_⟩
    rw[if_pos (by rw[decide_eq_true_eq];omega),bs,EO hj (decide_eq_false hx)])
  (fun n s hP=>by
   obtain⟨hP,hA⟩:=hP
   rw[List.take_length] at hP hA
   simp only[mW]
   rw[if_neg gD]
   exact⟨_,rfl,by rw[AG hA,hP]⟩) bX 0 [] (Nat.zero_le _) (by simp only[bX];omega) ⟨by simp,by simp⟩
 rw[hr] at e
 have e:mW p l bX 0 []=_:=e
 rw[e,bs]
 cases cr l p.2.2.2.2.1<;>rfl
theorem GW(l:List eu)(x:List l3)(hw:∀s∈l,wf cn s)(h6:x.length≤6):∀y,y=(match cr l x with| .bh v=>(v,0)| .ret r=>r)→y.1.length≤6∧∀s∈y.1,s.2.1.length≤az:=by
 intro y hy
 by_cases ha:x.all (Aw l)=true
 ·have hc:cr l x= .bh (x.map (gt l)):=by unfold cr;rw[if_pos ha]
  rw[hc] at hy
  subst hy
  refine⟨by show(x.map (gt l)).length≤6;simpa using h6,fun s hs=>?_⟩
  have hs:s∈x.map (gt l):=hs
  obtain⟨z,hz,rfl⟩:=List.mem_map.1 hs
  have hok:Aw l z=true:=List.all_eq_true.1 ha _ hz
  have hx:ff l z.2.2.2.2.1<l.length:=of_decide_eq_true hok
  have hg:gt l z=l[ff l z.2.2.2.2.1]:=by unfold gt;rw[List.getD_eq_getElem?_getD,List.getElem?_eq_getElem hx];rfl
  rw[hg]
  exact(hw _ (List.getElem_mem hx)).2.1.2.1
 ·have hc:cr l x= .ret ([],290):=by unfold cr;rw[if_neg ha]
  rw[hc] at hy
  subst hy
  refine⟨Nat.zero_le _,fun s hs=>?_⟩
  have hs:s∈([]:List eu):=hs
  cases hs
theorem KV(x:List eu)(hl:x.length≤6)(hx:∀s∈x,s.2.1.length≤az):f12 x x=some true:=by
 have hm:=bu
 unfold f12
 have h:=wZ (kx x x) x.length (by omega)
  (fun n i hi=>by
   simp only[kx]
   rw[if_pos (gC hi),if_pos (fA hi),if_pos (mS hi),aR (t:=cn) hi,IG,mr,IN _ _ (hx _ (List.getElem_mem hi)),dB (cN ao),bs,bs]
   rfl)
  (fun n=>by simp only[kx];rw[if_neg gD])
 rw[Kb,mr,h,bs]
theorem Fm(a0:List cI)(a1:List Int)(s:List dz)(i:Nat)(hi:i<a0.length)(h:a1.length≤az):jW a0 a1 (i:Int) s bX false 0=some (decide (a0[i].1∈a1)):=by
 have hm:=bu
 have hn:nth aI a0 (i:Int)=a0[i]:=aR (t:=aI) hi
 obtain⟨r,hr,e⟩:=cE (fun j(s:Bool)=>s=decide (a0[i].1∈a1.take j)) (fun r=>r=decide (a0[i].1∈a1)) (fun n j b=>jW a0 a1 (i:Int) s n b j) a1.length
  (fun n j b hj hP=>by
   left
   refine⟨decide (a0[i].1∈a1.take (j+1)),rfl,?_⟩
   simp only[jW]
   rw[hn,aR (t:=.int .i64) hj,if_pos (gC hj),if_pos (fA hi),if_pos (fA hj),aJ (by omega),List.take_succ_eq_append_getElem hj]
   by_cases hs:a0[i].1∈a1.take j
   ·rw[if_pos (by rw[hP];exact decide_eq_true hs),bs,decide_eq_true (List.mem_append_left _ hs)]
   ·rw[if_neg (by rw[hP,decide_eq_false hs];simp),bs]
    by_cases he:a1[j]=a0[i].1
    ·rw[decide_eq_true he,decide_eq_true (List.mem_append_right _ (by rw[he];exact List.mem_singleton.2 rfl))]
    ·rw[decide_eq_false he,decide_eq_false (fun hh=>by
      rcases List.mem_append.1 hh with hh|hh
      ·exact hs hh
      ·exact he (List.mem_singleton.1 hh).symm)])
  (fun n b hP=>by
   simp only[jW]
   rw[if_neg gD]
   exact⟨_,by rw[hP,List.take_length],rfl⟩) bX 0 false (Nat.zero_le _) (by have:=vJ h;omega) (by simp)
 rw[hr] at e
 exact e
theorem Fo(a0:List cI)(a1:List Int)(i:Nat)(hi:i<a0.length)(h6:a0[i].2.2.2.2.1.length≤6)(acc:List dz)(hb:acc.length≤48):
 jX a0 a1 (i:Int) (decide (a0[i].1∈a1)) bX 0 acc=some (acc++mu a1 a0[i]):=by
 have hm:=bu
 have hn:nth aI a0 (i:Int)=a0[i]:=aR (t:=aI) hi
 have hbig:bX=(bX -1)+1:=by simp[bX]
 by_cases hin:a0[i].1∈a1
 ·have hbl:mu a1 a0[i]=a0[i].2.2.2.2.1.map (EP a0[i]):=by unfold mu;rw[if_pos hin]
  rw[decide_eq_true hin,hbl]
  obtain⟨r,hr,e⟩:=cE (fun j s=>s=acc++(a0[i].2.2.2.2.1.take j).map (EP a0[i])) (fun r=>r=acc++a0[i].2.2.2.2.1.map (EP a0[i])) (fun n j s=>jX a0 a1 (i:Int) true n j s) a0[i].2.2.2.2.1.length
   (fun n j s hj hP=>by
    left
    refine⟨_,rfl,?_⟩
    have hs:=aR (t:=a8) (xs:=a0[i].2.2.2.2.1) hj
    simp only[jX]
    rw[hn,if_pos trivial,if_pos (fA hi),bs,gC hj,if_pos rfl,bs]
    simp only[]
    rw[if_pos (fA hi),if_pos (fA hj),hs,if_pos (by rw[hP];simp only[List.length_append,List.length_map,List.length_take,List.length_cons,List.length_nil];omega),aJ (by omega),List.take_succ_eq_append_getElem hj,List.map_append,←List.append_assoc,←hP]
    rfl)
   (fun n s hP=>by
    simp only[jX]
    rw[hn,if_pos trivial,if_pos (fA hi),bs,if_neg gD,bs]
    exact⟨_,by rw[hP,List.take_length],rfl⟩) bX 0 acc (Nat.zero_le _) (by simp only[bX];omega) (by simp)
  rw[hr] at e
  exact e
 ·have hbl:mu a1 a0[i]= []:=by unfold mu;rw[if_neg hin]
  rw[decide_eq_false hin,hbl,List.append_nil,hbig]
  rfl
theorem KW(a0:List cI)(c:List Int)(hl:a0.length≤8)(hc:c.length≤az)(h6:∀p∈a0,p.2.2.2.2.1.length≤6):f17 a0 c=some (sg c a0):=by
 obtain⟨r,hr,e⟩:=cE (fun i s=>s=sg c (a0.take i)) (fun r=>r=sg c a0) (fun n i s=>jY a0 c n i s) a0.length
  (fun n i s hi hP=>by
   left
   refine⟨_,rfl,?_⟩
   have hsl:s.length≤48:=by
    rw[hP]
    have:=s6 c (a0.take i) (fun p hp=>h6 p (List.mem_of_mem_take hp))
    rw[List.length_take] at this
    omega
   simp only[jY]
   rw[if_pos (gC hi),Fm a0 c s i hi hc,bs,Fo a0 c i hi (h6 _ (List.getElem_mem _)) s hsl,bs,bs,aJ (by omega),sZ hi,←hP])
  (fun n s hP=>by
   simp only[jY]
   rw[if_neg gD]
   exact⟨_,by rw[hP,List.take_length],rfl⟩) bX 0 [] (Nat.zero_le _) (by simp only[bX];omega) (by simp[sg])
 rw[hr] at e
 have e:jY a0 c bX 0 []=_:=e
 unfold f17
 rw[e,bs]
theorem Fp{c:List Int}{l:List cI}(hw:∀p∈l,wf aI p):∀s∈sg c l,s.2.2.1.2.2.1.length≤az∧s.2.2.1.2.2.2.1.length≤az:=by
 intro s hs
 unfold sg at hs
 obtain⟨b,hb,hs⟩:=List.mem_flatten.1 hs
 obtain⟨p,hp,rfl⟩:=List.mem_map.1 hb
 unfold mu at hs
 split at hs
 ·obtain⟨z,hz,rfl⟩:=List.mem_map.1 hs
  have:=Dy ((pC (hw p hp)).2.1 z hz)
  exact⟨this.1,this.2.1⟩
 ·cases hs
theorem IW(x:List dz)(hl:x.length≤az)(hx:∀s∈x,s.2.2.1.2.2.1.length≤az∧s.2.2.1.2.2.2.1.length≤az):f15 x x=some true:=by
 unfold f15
 have h:=wZ (kP x x) x.length hl
  (fun n i hi=>by
   have hw:=hx _ (List.getElem_mem hi)
   simp only[kP]
   rw[if_pos (gC hi),if_pos (fA hi),if_pos (mS hi),aR (t:=bf) hi]
   simp only[dT,IG,mr]
   rw[CQ _ hw.1,bs,CQ _ hw.2,bs]
   rfl)
  (fun n=>by simp only[kP];rw[if_neg gD])
 rw[Kb,mr,h,bs]
theorem GX(a0:List cI)(a1:List eu)(a2:List Int)(hl:a0.length≤8)(hw:∀p∈a0,wf aI p)(h6:∀p∈a0,p.2.2.2.2.1.length≤6)(h1:a1.length≤6)(hw1:∀s∈a1,wf cn s):nF a0 a1 a2 (a0.length+1) 0=some (.bh ()):=by
 have hm:=bu
 obtain⟨r,hr,e⟩:=cE (σ:=Unit) (fun _ _=>True) (fun r=>r= .bh ()) (fun n i _=>nF a0 a1 a2 n i) a0.length
  (fun n i s hi _=>by
   left
   refine⟨(),trivial,?_⟩
   have hmem:a0[i]∈a0:=List.getElem_mem _
   have h0:0<a0.length:=by omega
   have hn0:nth aI a0 (0:Int)=a0[0]:=aR (t:=aI) h0
   have wi:=hw _ hmem
   have w6:=h6 _ hmem
   obtain⟨c1,c2⟩:=GW a1 a0[i].2.2.2.2.1 hw1 w6 _ rfl
   simp only[nF]
   rw[if_pos (gC hi),if_pos (fA hi),aR (t:=aI) hi,hn0,e7 _ a1 h1 hw1 w6,bs,e8 _ a1 h1 hw1 w6,bs,KT _ wi w6,bs,KU _ w6,bs,e9 (IU a0[i]) (by show(List.map GI _).length≤az;rw[List.length_map];omega) (by
    intro s hs
    obtain⟨z,hz,rfl⟩:=List.mem_map.1 hs
    have:=Dy ((pC wi).2.1 z hz)
    exact⟨this.1,this.2.1⟩),bs]
   simp only[Bool.not_true,mr]
   rw[KV _ c1 c2,bs]
   simp only[Bool.not_true,mr,dT]
   rw[if_pos (by omega),KC _ _ wi,bs,Jo _ _ wi,bs,KC _ _ wi,bs,Bo]
   simp only[beq_self_eq_true,Bool.not_true,mr,bs]
   rw[aJ (by omega)])
  (fun n s _=>by
   simp only[nF]
   rw[if_neg gD]
   exact⟨_,rfl,rfl⟩) (a0.length+1) 0 () (Nat.zero_le _) (by omega) trivial
 rw[hr] at e
 exact e
theorem KX(a0:List cI)(a1:List eu)(a2:List Int)(h0:wf (.slice 128 aI) a0)(h1:wf (.slice 56 cn) a1)(h2:wf (.slice 8 (.int .i64)) a2):f3 a0 a1 a2=some true:=by
 have hm:=bu
 obtain⟨_,l0,w0⟩:=h0
 obtain⟨_,l1,w1⟩:=h1
 obtain⟨_,l2,_⟩:=h2
 obtain⟨b,hb,hb2⟩:=t6 a0 l0 w0
 unfold f3 f5
 rw[bs,if_neg (by simp),hb,bs]
 cases b with
 |false=>rfl
 |
  true=>
  obtain⟨g1,g2⟩:=hb2 rfl
  rw[if_neg (by simp)]
  by_cases hc:(6:Int)<(a1.length:Int)
  ·rw[decide_eq_true hc];rfl
  ·rw[decide_eq_false hc,mr]
   by_cases hd:(12:Int)<(a2.length:Int)
   ·rw[decide_eq_true hd];rfl
   ·rw[decide_eq_false hd,bs,mr,bs]
    simp only[]
    rw[GX a0 a1 a2 g1 w0 g2 (by omega) w1,bs]
    simp only[]
    have hs:=s6 a2 a0 g2
    rw[I5 a0 a2 g1 l2 w0 g2,bs,KW a0 a2 g1 l2 g2,bs,IW _ (by omega) (Fp w0),bs]
end Go.Proofs.YtjabllhapfphoaaGreatDoor
