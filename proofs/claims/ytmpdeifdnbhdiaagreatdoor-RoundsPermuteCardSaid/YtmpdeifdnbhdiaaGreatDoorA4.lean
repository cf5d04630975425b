/- The machines: what it means to be walked or run, part 4. No condition. -/
import Derived.Test.YtmpdeifdnbhdiaaGreatDoorA3
import Derived.ChangeKeysEq
import Derived.Laws.StructEq
import Derived.Laws.BytesString
import Derived.MapKept
import Derived.RangeFuncNested
namespace Go.Cm
section
variable{P:Program} {E:Env} {w:World}
noncomputable def EW(x:V):V→Option Bool:=
 @V.rec (fun _=>V→Option Bool) (fun _ _=>none) (fun _ _ _=>none) (fun _ _=>none) (fun _ _ _=>none) (fun _=>none) (fun _ _ _ _ _=>none) (fun _ _ _ _ _=>none) (fun _=>none) (fun _=>none) (fun _ _=>none) (fun _=>none) (fun _ _ _ _ _ _=>none) (fun _ _=>none) (fun _=>none) (fun _ _ _ _=>none) (fun _=>none) (fun _ _ _=>none) (fun _ _ _=>none) (fun _=>none)
  (fun y=>y.split (some true) (fun _ _=>none) none)
  (fun a _ _ ih y=>y.split none (fun b m=>a.int fun k i=>b.int fun k' j=>bd (wa k k') (@Bool.rec (fun _=>Option Bool) (some false) (ih m) (tw i j))) none) x
theorem bC{α:Type}{x:V}{n:Option α}{f:V→V→Option α}{y:α}(h:x.split n f none=some y):(x= .nil∧n=some y)∨∃a l,x= .cons a l∧f a l=some y:=by
 cases x<;>first|exact Or.inl ⟨rfl,h⟩|exact Or.inr ⟨_,_,rfl,h⟩|cases h
theorem mV{d:Nat}{e:TypeId}{k0 k:IntKind}{a b:Int}(he:P.underlying e=some (.int k0)):(Op.equalIn (d+1) e (.int k a) (.int k b)).run P w= .ok (tw a b) w:=by
 simp[Op.equalIn,au he,jz]
theorem EX{d:Nat}{e:TypeId}{k0:IntKind}(he:P.underlying e=some (.int k0)){xs ys:Array Value}:∀{l m:V}{i n:Nat}{b:Bool},aD E l (xs.toList.drop i)→aD E m (ys.toList.drop i)→me l=n→EW l m=some b→
 (Op.eqItems (d+1) e 1 xs ys (List.range' i n)).run P w= .ok b w:=by
 intro l
 induction l with
 |
  nil=>
  intro m i n b h1 h2 hn h
  have hn:0=n:=hn
  subst hn
  rcases bC (show m.split (some true) (fun _ _=>none) none=some b from h) with⟨rfl,h⟩|⟨_,_,_,h⟩
  ·cases h;simp[Op.eqItems]
  ·cases h
 |
  cons a l _ ih=>
  intro m i n b h1 h2 hn h
  have hn:Nat.succ (me l)=n:=hn
  subst hn
  obtain⟨c,m',rfl,h⟩:=bn (show m.split none (fun b' m'=>a.int fun k i=>b'.int fun k' j=>bd (wa k k') (@Bool.rec (fun _=>Option Bool) (some false) (EW l m') (tw i j))) none=some b from h)
  obtain⟨k,x,rfl,h⟩:=aR h
  obtain⟨k',y,rfl,h⟩:=aR h
  obtain⟨hk,hz⟩:=af h
  have:=gI hk;subst this
  obtain⟨v,r,e1,v1,v2⟩:=aD.aw.1 h1
  obtain⟨u,s,e2,u1,u2⟩:=aD.aw.1 h2
  simp only[RV] at v1 u1
  subst v1;subst u1
  have hx:xs[i]? =some (.int k x):=by
   have:=congrArg (·[0]?) e1
   simpa using this
  have hy:ys[i]? =some (.int k y):=by
   have:=congrArg (·[0]?) e2
   simpa using this
  have hr:r=xs.toList.drop (i+1):=by
   have:=congrArg (List.drop 1) e1
   simpa using this.symm
  have hs:s=ys.toList.drop (i+1):=by
   have:=congrArg (List.drop 1) e2
   simpa using this.symm
  subst hr;subst hs
  rw[List.range'_succ]
  simp only[Op.eqItems,Nat.mul_one]
  have p1:(part e xs i).run P w= .ok (.int k x) w:=by simp[part,c8 he,iv,hx]
  have p2:(part e ys i).run P w= .ok (.int k y) w:=by simp[part,c8 he,iv,hy]
  simp only[Sem.run_bind,p1,p2,Result.andThen_ok,mV he]
  cases hq:tw x y with
  |
   false=>
   rw[hq] at hz
   cases(show some false=some b from hz)
   simp
  |
   true=>
   rw[hq] at hz
   have:=ih v2 u2 rfl (show EW l m'=some b from hz)
   simpa using this
 |_=>intro m i n b h1;simp[aD] at h1
noncomputable def EY(x:V):V→Option Bool:=
 @V.rec (fun _=>V→Option Bool) (fun _ _=>none) (fun _ _ _=>none) (fun _ _=>none) (fun _ _ _=>none) (fun _=>none) (fun _ _ _ _ _=>none) (fun _ _ _ _ _=>none) (fun _=>none) (fun _=>none) (fun _ _=>none) (fun _=>none) (fun _ _ _ _ _ _=>none) (fun _ _=>none) (fun _=>none) (fun _ _ _ _=>none) (fun _=>none) (fun _ _ _=>none) (fun _ _ _=>none) (fun _=>none)
  (fun y=>y.split (some true) (fun _ _=>none) none)
  (fun a _ _ ih y=>y.split none (fun b m=>a.int fun k i=>b.int fun k' j=>bd (wa k k') (bO (ih m) fun r=>some (@Bool.rec (fun _=>Bool) false r (tw i j)))) none) x
inductive PI:List Value→List Value→Bool→Prop
 |nil:PI [] [] true
 |cons {k:IntKind} {i j:Int} {xs ys:List Value} {r:Bool}:PI xs ys r→PI (.int k i::xs) (.int k j::ys) (tw i j&&r)
theorem xJ{xs ys:List Value}{b:Bool}:∀{l m:V},aD E l xs→aD E m ys→EY l m=some b→PI xs ys b:=by
 intro l
 induction l generalizing xs ys b with
 |
  nil=>
  intro m h1 h2 h
  rcases bC (show m.split (some true) (fun _ _=>none) none=some b from h) with⟨rfl,h⟩|⟨_,_,_,h⟩
  ·cases h;rw[aD.bL] at h1 h2;subst h1;subst h2;exact .nil
  ·cases h
 |
  cons a l _ ih=>
  intro m h1 h2 h
  obtain⟨c,m',rfl,g1⟩:=bn (show m.split none (fun b' m'=>a.int fun k i=>b'.int fun k' j=>bd (wa k k') (bO (EY l m') fun r=>some (@Bool.rec (fun _=>Bool) false r (tw i j)))) none=some b from h)
  obtain⟨k,x,rfl,g2⟩:=aR g1
  obtain⟨k',y,rfl,g3⟩:=aR g2
  obtain⟨hk,g4⟩:=af g3
  have:=gI hk;subst this
  obtain⟨r',g5,g6⟩:=aa g4
  obtain⟨v,r,rfl,v1,v2⟩:=aD.aw.1 h1
  obtain⟨u,s,rfl,u1,u2⟩:=aD.aw.1 h2
  simp only[RV] at v1 u1
  subst v1;subst u1
  have e:b=(tw x y&&r'):=by
   have:=Option.some.inj g6
   rw[←this]
   cases tw x y<;>rfl
  subst e
  exact .cons (ih v2 u2 g5)
 |_=>intro m h1;simp[aD] at h1
theorem PI.cut{xs ys:List Value}{b:Bool}(h:PI xs ys b):∀n,∃b1 b2,PI (xs.take n) (ys.take n) b1∧PI (xs.drop n) (ys.drop n) b2∧b=(b1&&b2):=by
 induction h with
 |nil=>intro n;exact⟨true,true,by simpa using .nil,by simpa using .nil,rfl⟩
 |
  @cons k i j xs ys r h ih=>
  intro n
  cases n with
  |zero=>exact⟨true,_,.nil,.cons h,by simp⟩
  |
   succ n=>
   obtain⟨b1,b2,h1,h2,h3⟩:=ih n
   exact⟨_,b2,.cons h1,h2,by rw[h3,Bool.and_assoc]⟩
theorem PI.same{xs ys:List Value}{b:Bool}(h:PI xs ys b):b=true→xs=ys:=by
 induction h with
 |nil=>intro _;rfl
 |
  @cons k i j xs ys r h ih=>
  intro hb
  obtain⟨h1,h2⟩:=(Bool.and_eq_true _ _).mp hb
  rw[jz] at h1
  have:i=j:=by simpa using h1
  subst this;rw[ih h2]
theorem PI.ints{xs ys:List Value}{b:Bool}(h:PI xs ys b):∀v∈xs,∃k n,v= .int k n:=by
 induction h with
 |nil=>intro v hv;cases hv
 |
  cons h ih=>
  intro v hv
  rcases List.mem_cons.1 hv with e|e
  ·exact⟨_,_,e⟩
  ·exact ih v e
noncomputable def sO(k:TypeId→Option Nat)(fs:List Field):Nat→Option Nat:=
 @List.rec Field (fun _=>Nat→Option Nat) (fun o=>some o) (fun f _ ih o=>bd (cD (f.name== "_")) (bd (Nat.beq f.offset o) (bO (k f.type) fun n=>ih (o+n)))) fs
noncomputable def fk(P:Program)(n:Nat):TypeId→Option Nat:=
 @Nat.rec (fun _=>TypeId→Option Nat) (fun _=>none) (fun _ ih t=>bO (P.underlying t) fun d=>match d with
  | .int _=>some 1
  | .struct fs=>bd (cD (P.stoodInHeld t)) (bO (sO ih fs.toList 0) fun s=>bO (P.info? t) fun i=>bd (Nat.beq i.size s) (some s))
  |_=>none) n
def KV(P:Program)(t:TypeId)(v:Value)(xs:List Value):Prop:=
 ∃d,P.underlying t=some d∧((iv d=true∧v= .agg xs.toArray)∨(iv d=false∧xs= [v]))
theorem pP{n s:Nat}{t:TypeId}(h:fk P n t=some s):∃n',n=n'+1∧((∃k,P.underlying t=some (.int k)∧s=1)∨∃fs i,P.underlying t=some (.struct fs)∧P.stoodInHeld t=false∧sO (fk P n') fs.toList 0=some s∧P.info? t=some i∧i.size=s):=by
 cases n with
 |zero=>cases h
 |
  succ n=>
  refine⟨n,rfl,?_⟩
  obtain⟨d,hd,h⟩:=aa (show(bO (P.underlying t) fun d=>match d with
   | .int _=>some 1
   | .struct fs=>bd (cD (P.stoodInHeld t)) (bO (sO (fk P n) fs.toList 0) fun s=>bO (P.info? t) fun i=>bd (Nat.beq i.size s) (some s))
   |_=>none)=some s from h)
  cases d with
  |int k=>cases h;exact Or.inl ⟨k,hd,rfl⟩
  |
   struct fs=>
   obtain⟨h1,h⟩:=af h
   obtain⟨s',h2,h⟩:=aa h
   obtain⟨i,h3,h⟩:=aa h
   obtain⟨h4,h⟩:=af h
   cases h
   exact Or.inr ⟨fs,i,hd,by rw[dC] at h1;simpa using h1,h2,h3,bf h4⟩
  |_=>cases h
theorem xK{n s off:Nat}{t:TypeId}{cs:Array Value}(h:fk P n t=some s)(hl:off+s≤cs.size):∃v,(part t cs off).run P w= .ok v w∧KV P t v ((cs.toList.drop off).take s):=by
 obtain⟨n',rfl,⟨k,hd,rfl⟩|⟨fs,i,hd,h1,h2,h3,rfl⟩⟩:=pP h
 ·have hlt:off<cs.size:=by omega
  refine⟨cs[off],by simp[part,c8 hd,iv,hlt],_,hd,Or.inr ⟨rfl,?_⟩⟩
  rw[List.drop_eq_getElem_cons (by simpa using hlt)];simp
 ·refine⟨.agg (cs.extract off (off+i.size)),by simp[part,c8 hd,iv,aS h3],_,hd,Or.inl ⟨rfl,?_⟩⟩
  congr 1
  apply Array.ext'
  rw[Array.toList_extract,List.extract_eq_take_drop,Nat.add_sub_cancel_left]
theorem mW{k:TypeId→Option Nat}{f:Field}{fs:List Field}{o e:Nat}(h:sO k (f::fs) o=some e):f.name≠ "_" ∧f.offset=o∧∃n,k f.type=some n∧sO k fs (o+n)=some e:=by
 obtain⟨h1,h⟩:=af (show bd (cD (f.name== "_")) (bd (Nat.beq f.offset o) (bO (k f.type) fun n=>sO k fs (o+n)))=some e from h)
 obtain⟨h2,h⟩:=af h
 obtain⟨n,h3,h⟩:=aa h
 rw[dC] at h1
 exact⟨by simpa using h1,bf h2,n,h3,h⟩
theorem sP{k:TypeId→Option Nat}:∀{fs:List Field}{o e:Nat},sO k fs o=some e→o≤e
 |[],o,e,h=>by cases(show some o=some e from h);exact Nat.le_refl _
 |
  f::fs,o,e,h=>by
  obtain⟨_,_,n,_,h⟩:=mW h
  exact Nat.le_trans (Nat.le_add_right o n) (sP h)
theorem ov{c:List Value}{o n e:Nat}(h:o+n≤e):((c.drop o).take (e -o)).take n=(c.drop o).take n∧((c.drop o).take (e -o)).drop n=(c.drop (o+n)).take (e -(o+n)):=by
 constructor
 ·rw[List.take_take,Nat.min_eq_left (by omega)]
 ·rw[List.drop_take,List.drop_drop]
  congr 1;omega
theorem xL{d:Nat}{k:TypeId→Option Nat}{cx cy:Array Value}
 (hp:∀t s off(cs:Array Value),k t=some s→off+s≤cs.size→∃v,(part t cs off).run P w= .ok v w∧KV P t v ((cs.toList.drop off).take s))
 (hq:∀t s vx vy xs ys b,k t=some s→KV P t vx xs→KV P t vy ys→xs.length=s→PI xs ys b→(Op.equalIn d t vx vy).run P w= .ok b w):
 ∀{fs:List Field}{o e:Nat}{b:Bool},sO k fs o=some e→e≤cx.size→e≤cy.size→PI ((cx.toList.drop o).take (e -o)) ((cy.toList.drop o).take (e -o)) b→(Op.eqFields d cx cy fs).run P w= .ok b w
 |
  [],o,e,b,h,hx,hy,hb=>by
  cases(show some o=some e from h)
  simp only[Nat.sub_self,List.take_zero] at hb
  cases hb
  simp[Op.eqFields]
 |
  f::fs,o,e,b,h,hx,hy,hb=>by
  obtain⟨h1,h2,n,h3,h4⟩:=mW h
  have hle:=sP h4
  obtain⟨b1,b2,g1,g2,rfl⟩:=hb.cut n
  rw[(ov hle).1,(ov hle).1] at g1
  rw[(ov hle).2,(ov hle).2] at g2
  obtain⟨vx,p1,p2⟩:=hp f.type n o cx h3 (by omega)
  obtain⟨vy,p3,p4⟩:=hp f.type n o cy h3 (by omega)
  have heq:=hq f.type n vx vy _ _ b1 h3 p2 p4 (by simp;omega) g1
  have hrest:=xL hp hq h4 hx hy g2
  simp only[Op.eqFields,Sem.run_ite,if_pos h1,Sem.run_bind,h2,p1,p3,Result.andThen_ok,heq]
  cases b1 with
  |false=>simp
  |true=>simp only[Bool.not_true,Bool.false_eq_true,if_false,hrest,Bool.true_and]
theorem PI.len{xs ys:List Value}{b:Bool}(h:PI xs ys b):xs.length=ys.length:=by
 induction h with
 |nil=>rfl
 |cons _ ih=>simp[ih]
theorem G4(d:Nat):∀(n:Nat)(t:TypeId)(s:Nat)(vx vy:Value)(xs ys:List Value)(b:Bool),fk P n t=some s→KV P t vx xs→KV P t vy ys→xs.length=s→PI xs ys b→(Op.equalIn (d+n) t vx vy).run P w= .ok b w:=by
 intro n
 induction n with
 |zero=>intro t s vx vy xs ys b h;cases h
 |
  succ n ih=>
  intro t s vx vy xs ys b h hx hy hl hb
  obtain⟨n',e,hh⟩:=pP h
  cases e
  obtain⟨d1,hd1,hx⟩:=hx
  obtain⟨d2,hd2,hy⟩:=hy
  rw[hd1] at hd2;cases hd2
  rcases hh with⟨k,hd,rfl⟩|⟨fs,i,hd,h1,h2,h3,rfl⟩
  ·rw[hd1] at hd;cases hd
   rcases hx with⟨hx,_⟩|⟨_,rfl⟩
   ·cases hx
   rcases hy with⟨hy,_⟩|⟨_,rfl⟩
   ·cases hy
   cases hb with
   |
    cons hb=>
    cases hb
    rw[Bool.and_true]
    exact mV hd1
  ·rw[hd1] at hd;cases hd
   rcases hx with⟨_,rfl⟩|⟨hx,_⟩
   rotate_left
   ·cases hx
   rcases hy with⟨_,rfl⟩|⟨hy,_⟩
   rotate_left
   ·cases hy
   have hf:P.fieldsOf t=fs:=by simp[Program.fieldsOf,hd1]
   have hly:=hb.len
   have:=run_equalIn_struct (P:=P) w (d+n) t xs.toArray ys.toArray (by rw[hf];exact hd1) h1
   rw[show d+(n+1)=d+n+1 from rfl,this,hf]
   refine xL (fun t s off cs ht hl=>xK ht hl) (fun t s vx vy xs ys b=>ih t s vx vy xs ys b) h2 (by simp;omega) (by simp;omega) ?_
   have e1:(xs.toArray.toList.drop 0).take (i.size -0)=xs:=by rw[←hl];simp
   have e2:(ys.toArray.toList.drop 0).take (i.size -0)=ys:=by rw[←hl,hly];simp
   rw[e1,e2];exact hb
noncomputable def lk(P:Program)(t:TypeId)(x y:V):Option Bool:=
 bO (
  P.underlying t) fun d=>match d with
  | .int _=>x.int fun k a=>y.int fun k' b=>bd (wa k k') (some (tw a b))
  | .string=>x.str fun a=>y.str fun b=>some (B7 a b)
  | .bool=>x.bool fun a=>y.bool fun b=>some (@Bool.rec (fun _=>Bool) (cD b) b a)
  |
   .array n e=>bO (P.underlying e) fun de=>match de with
   | .int _=>bO (P.info? e) fun i=>bd (Nat.beq i.size 1) (x.ag fun l=>y.ag fun m=>bd (Nat.beq (me l) n) (EW l m))
   |_=>none
  | .struct _=>bO (fk P 3 t) fun s=>x.ag fun l=>y.ag fun m=>bd (Nat.beq (me l) s) (EY l m)
  |_=>none
theorem sQ{d:Nat}{t:TypeId}{x y:V}{vx vy:Value}{b:Bool}(hx:RV E x vx)(hy:RV E y vy)(h:lk P t x y=some b):(Op.equalIn (d+3) t vx vy).run P w= .ok b w:=by
 obtain⟨dd,hd,h_1⟩:=aa h
 cases dd with
 |
  int k0=>
  obtain⟨k,a,rfl,h_2⟩:=aR h_1
  obtain⟨k',c,rfl,h_3⟩:=aR h_2
  obtain⟨hk,h_4⟩:=af h_3
  have:=gI hk;subst this
  cases h_4
  simp only[RV] at hx hy
  subst hx;subst hy
  exact mV hd
 |
  string=>
  obtain⟨a,rfl,h_5⟩:=cY h_1
  obtain⟨c,rfl,h_6⟩:=cY h_5
  cases h_6
  simp only[RV] at hx hy
  obtain⟨h1,rfl⟩:=hx
  obtain⟨h2,rfl⟩:=hy
  have:((dP a).toList==(dP c).toList)=B7 a c:=by
   rw[nk,jA,jA]
   by_cases e:a=c
   ·subst e;simp
   ·simp only[e,decide_false]
    simpa using fun hh=>e (oC h1 h2 hh)
  rw[run_equalIn_string w (d+2) t _ _ hd,this]
 |
  bool=>
  obtain⟨a,rfl,h_7⟩:=cL h_1
  obtain⟨c,rfl,h_8⟩:=cL h_7
  cases h_8
  simp only[RV] at hx hy
  subst hx;subst hy
  rw[run_equalIn_bool' w (d+2) t _ _ hd]
  cases a<;>cases c<;>rfl
 |
  array n e=>
  obtain⟨de,he,h_9⟩:=aa h_1
  cases de with
  |
   int k0=>
   obtain⟨i,hi,h_10⟩:=aa h_9
   obtain⟨h1,h_11⟩:=af h_10
   obtain⟨l,rfl,h_12⟩:=cu h_11
   obtain⟨m,rfl,h_13⟩:=cu h_12
   obtain⟨h2,h_14⟩:=af h_13
   simp only[RV] at hx hy
   obtain⟨a,rfl,x1,x2⟩:=hx
   obtain⟨c,rfl,y1,y2⟩:=hy
   rw[run_equalIn_array w (d+2) a c hd hi]
   have hc:P.cellsOf e=1:=by simp[Program.cellsOf,hi,bf h1]
   rw[hc,List.range_eq_range']
   exact EX he (i:=0) (by simpa using x1) (by simpa using y1) (bf h2) h_14
  |_=>cases h_9
 |
  struct fs=>
  obtain⟨s,hs,h_9⟩:=aa h_1
  obtain⟨l,rfl,h_10⟩:=cu h_9
  obtain⟨m,rfl,h_11⟩:=cu h_10
  obtain⟨h2,h_12⟩:=af h_11
  simp only[RV] at hx hy
  obtain⟨a,rfl,x1,x2⟩:=hx
  obtain⟨c,rfl,y1,y2⟩:=hy
  have hlen:a.toList.length=s:=by have:=x1.len;rw[bf h2] at this;exact this.symm
  exact G4 d 3 t s (.agg a) (.agg c) a.toList c.toList b hs ⟨_,hd,Or.inl ⟨rfl,rfl⟩⟩ ⟨_,hd,Or.inl ⟨rfl,rfl⟩⟩ hlen (xJ x1 y1 h_12)
 |_=>cases h_1
noncomputable def yZ(op:BinOp)(b:Bool):Option V:=match op with
 | .eql=>some (.b b)
 | .neq=>some (.b (cD b))
 |_=>none
noncomputable def xM(d:TypeDesc)(x y:V):Option Bool:=match d,x,y with
 | .slice _,.sl _ _ _ _,.ns=>some false
 | .slice _,.su _ _ _ _,.ns=>some false
 | .slice _,.ns,.ns=>some true
 | .slice _,.se,.ns=>some false
 | .func _ _ _,.fn _ _ _,.nf=>some false
 | .func _ _ _,.nf,.nf=>some true
 | .interface _,.DC _ _,.ni=>some false
 | .interface _,.ni,.ni=>some true
 | .map _ _,.m _,.nm=>some false
 | .map _ _,.nm,.nm=>some true
 | .pointer _,.p _ _,.np=>some false
 | .pointer _,.np,.np=>some true
 |_,_,_=>none
theorem AO{dp:Nat}{t:TypeId}{d:TypeDesc}{x y:V}{vx vy:Value}{b:Bool}(hd:P.underlying t=some d)(hx:RV E x vx)(hy:RV E y vy)(h:xM d x y=some b):(Op.equalIn (dp+1) t vx vy).run P w= .ok b w:=by
 unfold xM at h
 split at h<;>first|(cases h;done)|skip
 all_goals
  cases h
  simp only[RV] at hx hy
  subst hy
  first
   |(subst hx;simp[Op.equalIn,au hd];done)
   |(obtain⟨_,_,rfl⟩:=hx;simp[Op.equalIn,au hd];done)
   |(obtain⟨_,rfl,_⟩:=hx;simp[Op.equalIn,au hd];done)
   |(obtain⟨_,_,rfl,_⟩:=hx;simp[Op.equalIn,au hd];done)
   |(obtain⟨_,_,_,rfl,_⟩:=hx;simp[Op.equalIn,au hd];done)
def y6:Operand→Bool
 | .const _=>true
 |_=>false
noncomputable def dB(P:Program)(cst:Bool)(op:BinOp)(t:TypeId)(x y:V):Option V:=
 bd cst (bO (P.underlying t) fun d=>bO (xM d x y) fun b=>yZ op b)
noncomputable def DX(P:Program)(op:BinOp)(t:TypeId)(x y:V):Option V:=
 bd (cD (P.eqGuardType P.depth t)) (x.ag fun _=>y.ag fun _=>bO (lk P t x y) fun b=>yZ op b)
noncomputable def nK(P:Program)(cst:Bool)(op:BinOp)(t:TypeId)(x y:V):Option V:=
 @V.casesOn (fun _=>Option V) x (fun _=>y.bool fun _=>bO (lk P t x y) fun b=>yZ op b) (fun k a=>y.int fun k' b=>@Bool.rec (fun _=>Option V) (bd (wa k k') (vI op k a b)) (oD op k a b) (tB op)) (fun a=>y.str fun b=>yn op a b)
  (fun _ _=>dB P cst op t x y) (dB P cst op t x y) (fun _ _ _ _=>dB P cst op t x y) (fun _ _ _ _=>dB P cst op t x y) (dB P cst op t x y) (dB P cst op t x y) (fun _=>dB P cst op t x y) (dB P cst op t x y) (fun _ _ _=>dB P cst op t x y) (fun _=>none) (dB P cst op t x y) (fun _ _=>dB P cst op t x y) (dB P cst op t x y)
  (fun _=>DX P op t x y) (fun _=>none) none none (fun _ _=>none)
theorem jj{op:BinOp}{t:TypeId}{vx vy:Value}{b:Bool}{r:V}(h:yZ op b=some r)(he:(Op.equal t vx vy).run P w= .ok b w)(h1:binOp .eql t vx vy=(do pure (.bool (←Op.equal t vx vy))))(h2:binOp .neq t vx vy=(do pure (.bool (!(←Op.equal t vx vy))))):∃v,(binOp op t vx vy).run P w= .ok v w∧RV E r v:=by
 cases op<;>simp only[yZ] at h<;>cases h
 ·exact⟨.bool b,by rw[h1];simp[he],by simp only[RV]⟩
 ·exact⟨.bool (!b),by rw[h2];simp[he],by simp only[RV,dC]⟩
theorem wL{cst:Bool}{op:BinOp}{t:TypeId}{x y r:V}{vx vy:Value}{ox oy:Operand}(hc:cst=true→y6 ox=true∨y6 oy=true)(hx:RV E x vx)(hy:RV E y vy)(h:dB P cst op t x y=some r):
 (eqGuard op t ox oy vx vy).run P w= .ok () w∧∃v,(binOp op t vx vy).run P w= .ok v w∧RV E r v:=by
 obtain⟨hc',h⟩:=af h
 obtain⟨d,hd,h⟩:=aa h
 obtain⟨b,hb,h⟩:=aa h
 have he:=AO (P:=P) (w:=w) (dp:=9999) hd hx hy hb
 have hcc:=hc hc'
 have gd:(eqGuard op t ox oy .nilIface .nilIface).run P w= .ok () w:=by
  unfold eqGuard
  rcases hcc with h0|h0
  ·cases ox<;>simp[y6] at h0
   split<;>simp
  ·cases oy<;>simp[y6] at h0
   split<;>simp
 unfold xM at hb
 split at hb<;>first|(cases hb;done)|skip
 all_goals
  cases hb
  simp only[RV] at hx hy
  subst hy
  first
   |(subst hx;exact⟨by first|exact gd|(unfold eqGuard;split<;>simp),jj h he rfl rfl⟩)
   |(obtain⟨_,_,rfl⟩:=hx;exact⟨by unfold eqGuard;split<;>simp,jj h he rfl rfl⟩)
   |(obtain⟨_,rfl,_⟩:=hx;exact⟨by unfold eqGuard;split<;>simp,jj h he rfl rfl⟩)
   |(obtain⟨_,_,rfl,_⟩:=hx;exact⟨by unfold eqGuard;split<;>simp,jj h he rfl rfl⟩)
   |(obtain⟨_,_,_,rfl,_⟩:=hx;exact⟨by unfold eqGuard;split<;>simp,jj h he rfl rfl⟩)
theorem pQ{cst:Bool}{op:BinOp}{t:TypeId}{x y r:V}{vx vy:Value}{ox oy:Operand}(hc:cst=true→y6 ox=true∨y6 oy=true)(hx:RV E x vx)(hy:RV E y vy)(h:nK P cst op t x y=some r):
 (eqGuard op t ox oy vx vy).run P w= .ok () w∧∃v,(binOp op t vx vy).run P w= .ok v w∧RV E r v:=by
 cases x with
 |
  b a=>
  obtain⟨c,rfl,h_1⟩:=cL (show(y.bool fun _=>bO (lk P t (.b a) y) fun b=>yZ op b)=some r from h)
  obtain⟨b,hb,h_2⟩:=aa h_1
  have he:=sQ (w:=w) (d:=9997) hx hy hb
  simp only[RV] at hx hy
  subst hx;subst hy
  exact⟨by unfold eqGuard;split<;>simp,jj h_2 he rfl rfl⟩
 |
  i k a=>
  obtain⟨k',c,rfl,h_3⟩:=aR (show(y.int fun k' b=>@Bool.rec (fun _=>Option V) (bd (wa k k') (vI op k a b)) (oD op k a b) (tB op))=some r from h)
  simp only[RV] at hx hy
  subst hx;subst hy
  refine⟨by unfold eqGuard;split<;>simp,?_⟩
  cases hs:tB op with
  |true=>rw[hs] at h_3;exact wZ h_3
  |
   false=>
   rw[hs] at h_3
   obtain⟨hk,h_4⟩:=af (show bd (wa k k') (vI op k a c)=some r from h_3)
   have:=gI hk;subst this
   exact BD h_4
 |
  s a=>
  obtain⟨c,rfl,h_5⟩:=cY (show(y.str fun b=>yn op a b)=some r from h)
  simp only[RV] at hx hy
  obtain⟨h1,rfl⟩:=hx
  obtain⟨h2,rfl⟩:=hy
  exact⟨by unfold eqGuard;split<;>simp,BE h1 h2 h_5⟩
 |
  agg l=>
  obtain⟨hg,h_6⟩:=af (show DX P op t (.agg l) y=some r from h)
  obtain⟨l',e,h_7⟩:=cu h_6
  cases e
  obtain⟨m,rfl,h_8⟩:=cu h_7
  obtain⟨b,hb,h_9⟩:=aa h_8
  have he:=sQ (w:=w) (d:=9997) hx hy hb
  simp only[RV] at hx hy
  obtain⟨a,rfl,x1,x2⟩:=hx
  obtain⟨c,rfl,y1,y2⟩:=hy
  have hg:P.eqGuardType P.depth t=false:=by rw[dC] at hg;simpa using hg
  exact⟨run_eqGuard_agg w _ t ox oy a c hg,jj h_9 he rfl rfl⟩
 |yl b=>cases h
 |bJ l=>cases h
 |un=>cases h
 |nil=>cases h
 |cons a l=>cases h
 |_=>exact wL hc hx hy h
end
end Go.Cm
namespace Go.Cm
noncomputable def AP{α:Type}(p:Id):(Id→α)→α:=
 @List.rec Bool (fun _=>(Id→α)→α) (fun k=>k []) (fun b _ ih k=>ih fun l=>@Bool.rec (fun _=>α) (k (false::l)) (k (true::l)) b) p
theorem ll{α:Type}:∀(p:Id)(k:Id→α),AP p k=k p
 |[],_=>rfl
 |
  b::p,k=>by
  show AP p (fun l=>@Bool.rec (fun _=>α) (k (false::l)) (k (true::l)) b)=_
  rw[ll p];cases b<;>rfl
noncomputable def db{α β:Type}(v:Option α)(p:Id):T α→(T α→β)→β:=
 @List.rec Bool (fun _=>T α→(T α→β)→β) (fun t k=>@T.rec α (fun _=>β) (k (.n .e v .e)) (fun l _ r _ _=>k (.n l v r)) t)
  (fun b _ ih t k=>@T.rec α (fun _=>β) (@Bool.rec (fun _=>β) (ih .e fun x=>k (.n x none .e)) (ih .e fun x=>k (.n .e none x)) b)
   (fun l x r _ _=>@Bool.rec (fun _=>β) (ih l fun y=>k (.n y x r)) (ih r fun y=>k (.n l x y)) b) t) p
theorem bR{α β:Type}(v:Option α):∀(p:Id)(t:T α)(k:T α→β),db v p t k=k (put v p t)
 |[],t,k=>by cases t<;>rfl
 |
  b::p,t,k=>by
  have ih:=fun t(k:T α→β)=>bR v p t k
  cases t with
  |e=>cases b<;>exact ih _ _
  |n l x r=>cases b<;>exact ih _ _
noncomputable def V.CL{α:Type}(x:V)(f:FuncId→V→V→Option α)(g:Id→Option α):Option α:=
 @V.casesOn (fun _=>Option α) x (fun _=>none) (fun _ _=>none) (fun _=>none) (fun _ _=>none) none (fun _ _ _ _=>none) (fun _ _ _ _=>none) none none (fun _=>none) none f g none (fun _ _=>none) none (fun _=>none) (fun _=>none) none none (fun _ _=>none)
noncomputable def V.CM{α:Type}(x:V)(f:TypeId→V→Option α)(n:Option α):Option α:=
 @V.casesOn (fun _=>Option α) x (fun _=>none) (fun _ _=>none) (fun _=>none) (fun _ _=>none) none (fun _ _ _ _=>none) (fun _ _ _ _=>none) none none (fun _=>none) none (fun _ _ _=>none) (fun _=>none) none f n (fun _=>none) (fun _=>none) none none (fun _ _=>none)
noncomputable def pR(x:V):Option V:=
 @V.casesOn (fun _=>Option V) x (fun _=>some x) (fun _ _=>some x) (fun _=>some x) (fun _ _=>some x) none (fun _ _ _ _=>some x) (fun _ _ _ _=>some x) (some x) (some x) (fun _=>some x) (some x) (fun _ _ _=>some x) (fun _=>some x) none (fun _ _=>some x) none (fun _=>some x) (fun _=>none) none none (fun _ _=>none)
noncomputable def za(op:UnOp)(x:V):Option V:=match op with
 | .not=>x.bool fun b=>some (.b (cD b))
 | .neg=>x.int fun k n=>wY k (qi k (Int.sub 0 n))
 |_=>none
noncomputable def bytesOf(l:V):Option (List Nat):=
 @V.rec (fun _=>Option (List Nat)) (fun _=>none) (fun _ _=>none) (fun _=>none) (fun _ _=>none) none (fun _ _ _ _=>none) (fun _ _ _ _=>none) none none (fun _=>none) none (fun _ _ _ _ _=>none) (fun _=>none) none (fun _ _ _=>none) none (fun _ _=>none) (fun _ _=>none) none (some [])
  (fun a _ _ ih=>a.int fun k n=>bd (wa k .u8) (DH n fun n=>bd (Nat.ble n 255) (bO ih fun r=>some (n::r)))) l
noncomputable def uJ{α:Type}(hb:Id→Option ah)(x:V)(f:List Nat→Option α):Option α:=
 @Bool.rec (fun _=>Option α) (x.tq (fun b o n _=>bO (hb b) fun k=>k.cells fun l=>bO (bW o n l) fun c=>bO (bytesOf c) f)
  (fun b o n _=>bO (hb b) fun k=>k.cells fun l=>bO (bW o n l) fun c=>bO (bytesOf c) f) (f [])) (f []) x.qh
noncomputable def CN(P:Program)(e:TypeId):Bool:=match P.underlying e with
 |some (.int .u8)=>true
 |_=>false
noncomputable def mX(P:Program)(hb:Id→Option ah)(nx:Id)(src dst:TypeId)(x:V):Option bx:=
 bO (
  P.underlying src) fun s=>bO (P.underlying dst) fun d=>match d with
  | .int k=>x.int fun _ n=>bO (wY k (qi k n)) fun r=>some (.v r)
  |
   .string=>match s with
   | .slice e=>bd (CN P e) (uJ hb x fun l=>some (.v (.s l)))
   |_=>none
  | .slice e=>bd (CN P e) (@Bool.rec (fun _=>Option bx) (x.str fun s=>fN (kB s) fun n=>fC (kC s) fun c=>some (.nw (.su nx 0 n 1) (.u c e)))
   (match s with
    | .slice _=>x.tq (fun b _ _ _=>bO (hb b) fun k=>k.cells fun _=>some (.ch x b k)) (fun b _ _ _=>bO (hb b) fun k=>k.cells fun _=>some (.ch x b k)) none
    |_=>none) (Nat.beq src dst))
  |_=>none
noncomputable def xN(P:Program)(t:TypeId):Bool:=match P.underlying t with
 |some (.interface _)=>true
 |none=>true
 |_=>false
noncomputable def xO(P:Program)(t:TypeId)(x:V):Option V:=bd (cD (xN P t)) (some (.DC t x))
noncomputable def AQ(ok:Bool)(v:V)(b:Bool):V:=@Bool.rec (fun _=>V) v (.bJ (.cons v (.cons (.b b) .nil))) ok
noncomputable def uK(P:Program)(asserted:TypeId)(ok:Bool)(x:V):Option V:=
 bd (cD (xN P asserted)) (x.CM (fun t v=>@Bool.rec (fun _=>Option V) (bd ok (bO (zeroV P asserted) fun z=>some (AQ true z false))) (some (AQ ok v true)) (Nat.beq t asserted)) (bd ok (bO (zeroV P asserted) fun z=>some (AQ true z false))))
noncomputable def xP(P:Program)(nx:Id)(t:TypeId)(r:Option V):Option bx:=
 @Option.rec V (fun _=>Option bx) (some (.nw (.m nx) (.m .nil 0))) (fun x=>x.int fun _ _=>bO (P.underlying t) fun d=>match d with
  | .map _ _=>some (.nw (.m nx) (.m .nil 0))
  |_=>none) r
noncomputable def rC(P:Program)(nx:Id)(t:TypeId)(l c:V):Option bx:=
 bO (P.underlying t) fun d=>match d with
  | .slice e=>bO (P.info? e) fun i=>l.int fun _ l=>DH l fun l=>c.int fun _ c=>DH c fun c=>bd (Nat.ble l c) (bd (Nat.ble c 1000000) (bd (Nat.ble i.bytes 100000) (bO (DG P e i.size c) fun r=>fC r fun r=>some (.nw (.sl nx 0 l c) (.c r e)))))
  |_=>none
noncomputable def mY(P:Program)(kt:TypeId)(k:V)(es:Es):Option (Option V):=
 @Es.rec (fun _=>Option (Option V)) (some none) (fun k' v _ _ ih=>bO (lk P kt k k') fun b=>@Bool.rec (fun _=>Option (Option V)) ih (some (some v)) b) es
noncomputable def iH(P:Program)(hb:Id→Option ah)(t:TypeId)(x k:V)(ok:Bool):Option V:=
 bO (P.underlying t) fun d=>match d with
  | .map kt e=>bO (lk P kt k k) fun kk=>bd kk (x.mp (fun b=>bO (hb b) fun bl=>bl.tD fun es _=>bO (mY P kt k es) fun r=>@Option.rec V (fun _=>Option V) (bO (zeroV P e) fun z=>some (AQ ok z false)) (fun v=>some (AQ ok v true)) r)
   (bO (zeroV P e) fun z=>some (AQ ok z false)))
  |_=>none
noncomputable def kJ(P:Program)(kt:TypeId)(k v:V)(ck:Nat)(es:Es):Option Es:=
 @Es.rec (fun _=>Option Es) (some (.cons k v ck .nil)) (fun k' v' n l ih=>bO (lk P kt k k') fun b=>@Bool.rec (fun _=>Option Es) (bO ih fun r=>some (.cons k' v' n r)) (some (.cons k v n l)) b) es
noncomputable def uL(P:Program)(hb:Id→Option ah)(t:TypeId)(x k v:V):Option bx:=
 bO (P.underlying t) fun d=>match d with
  | .map kt _=>bO (lk P kt k k) fun kk=>bd kk (x.mp (fun b=>bO (hb b) fun bl=>bl.tD fun es ck=>bO (mY P kt k es) fun r=>bO (kJ P kt k v ck es) fun es'=>@Option.rec V (fun _=>Option bx) (fN (Nat.succ ck) fun ck'=>some (.ch .un b (.m es' ck'))) (fun _=>some (.ch .un b (.m es' ck))) r) none)
  |_=>none
noncomputable def xQ(P:Program)(hb:Id→Option ah)(nx:Id)(t:TypeId)(x:V):Option bx:=
 bO (P.underlying t) fun d=>match d with
  | .map _ _=>x.mp (fun b=>bO (hb b) fun bl=>bl.tD fun _ ck=>some (.nw (.p nx 0) (.it (some b) ck [] ck))) (some (.nw (.p nx 0) (.it none 0 [] 0)))
  |_=>none
noncomputable def ah.J1{α:Type}(k:ah)(f:Option Id→Nat→List Nat→Nat→Option α):Option α:=
 @ah.casesOn (fun _=>Option α) k (fun _ _=>none) (fun _ _=>none) (fun _ _=>none) f (fun _ _=>none) (fun _ _ _ _ _ _ _ _ _=>none) none
noncomputable def sR(n:Nat)(l:List Nat):Bool:=@List.rec Nat (fun _=>Bool) false (fun a _ ih=>@Bool.rec (fun _=>Bool) ih true (Nat.beq a n)) l
noncomputable def mZ(seen:List Nat)(es:Es):Es:=
 @Es.rec (fun _=>Es) .nil (fun k v n _ ih=>@Bool.rec (fun _=>Es) (.cons k v n ih) ih (sR n seen)) es
noncomputable def xR(n:Nat)(es:Es):Bool:=@Es.rec (fun _=>Bool) false (fun _ _ b _ ih=>@Bool.rec (fun _=>Bool) ih true (Nat.ble (Nat.succ b) n)) es
noncomputable def wM(seen:List Nat)(last:Nat)(es:Es):Bool:=
 @List.casesOn Nat (fun _=>Bool) seen true fun _ _=>@Es.casesOn (fun _=>Bool) es true fun _ _ _ _=>xR last es
noncomputable def AR(hb:Id→Option ah)(x:V)(str:Bool):Option bx:=
 bd (cD str) (x.ptr fun b o=>bd (Nat.beq o 0) (bO (hb b) fun bl=>bl.J1 fun m since seen last=>
  @Option.rec Id (fun _=>Option bx) (some (.v (.bJ (.cons (.b false) .nil))))
   (fun mb=>bO (hb mb) fun ml=>ml.tD fun es ck=>bd (wM seen last es) (
    @Es.casesOn (fun _=>Option bx) (mZ seen es) (some (.v (.bJ (.cons (.b false) .nil))))
     (fun k v n l=>@Es.casesOn (fun _=>Option bx) l (bd (Nat.ble (Nat.succ n) since) (some (.ch (.bJ (.cons (.b true) (.cons k (.cons v .nil)))) b (.it (some mb) since (seen++[n]) ck)))) (fun _ _ _ _=>none)))) m))
noncomputable def rD(x:V)(i:Nat):Option V:=x.tu fun l=>nX i l
noncomputable def rr(xs:V):Option V:=xs.split none (fun a l=>a.int fun k n=>l.split none (fun b m=>b.int fun k' n'=>m.split (bd (wa k k') (some (.i k (@Bool.rec (fun _=>Int) n n' (DE n n'))))) (fun _ _=>none) none) none) none
noncomputable def rq(xs:V):Option V:=xs.split none (fun a l=>a.int fun k n=>l.split none (fun b m=>b.int fun k' n'=>m.split (bd (wa k k') (some (.i k (@Bool.rec (fun _=>Int) n n' (DE n' n))))) (fun _ _=>none) none) none) none
noncomputable def EZ(x:V):Option Nat:=@Bool.rec (fun _=>Option Nat) (x.tq (fun _ _ n _=>some n) (fun _ _ n _=>some n) (some 0)) (some 0) x.qh
noncomputable def E7(hb:Id→Option ah)(z:Nat)(x:V):Option V:=
 @Bool.rec (fun _=>Option V) (x.tq (fun b o _ _=>bO (hb b) fun k=>k.cells fun l=>bW o z l) (fun b o _ _=>bO (hb b) fun k=>k.cells fun l=>bW o z l) (bd (Nat.beq z 0) (some .nil))) (bd (Nat.beq z 0) (some .nil)) x.qh
noncomputable def lU(hb:Id→Option ah)(size n:Nat)(s:V)(b:Id)(o l:Nat):Option bx:=
 fN (@Bool.rec (fun _=>Nat) l n (Nat.ble n l)) fun m=>bO (hb b) fun k=>k.cells fun ol=>bO (E7 hb (Nat.mul m size) s) fun c=>bO (vF o c ol) fun l'=>some (.ch (.i .i64 (.ofNat m)) b (k.br l'))
noncomputable def mO(P:Program)(hb:Id→Option ah)(t:TypeId)(d s:V):Option bx:=
 bO (P.underlying t) fun dd=>match dd with
  | .slice e=>bO (P.info? e) fun i=>bO (EZ s) fun n=>d.tq (fun b o l _=>lU hb i.size n s b o l) (fun b o l _=>lU hb i.size n s b o l) none
  |_=>none
end Go.Cm
namespace Go.Cm
noncomputable def m32(x:Nat):Nat:=Nat.mod x 4294967296
noncomputable def wd(s i:Nat):Nat:=Nat.mod (Nat.shiftRight s i) 4294967296
noncomputable def AS(i j k y:Nat):Nat:=Nat.mod (Nat.xor (Nat.xor (Nat.shiftRight y i) (Nat.shiftRight y j)) (Nat.shiftRight y k)) 4294967296
noncomputable def AT(i j k x y:Nat):Nat:=Nat.xor (Nat.mod (Nat.xor (Nat.shiftRight y i) (Nat.shiftRight y j)) 4294967296) (Nat.shiftRight x k)
noncomputable def sS(x:Nat):Nat:=Nat.mul x 4294967297
noncomputable def I4(e f g:Nat):Nat:=Nat.xor g (Nat.land e (Nat.xor f g))
noncomputable def I5(a b c:Nat):Nat:=Nat.lor (Nat.land a b) (Nat.land c (Nat.lor a b))
noncomputable def t1(k s w e:Nat):Nat:=Nat.add (Nat.add (Nat.add (wd s 224) (AS 6 11 25 (sS e))) (I4 e (wd s 160) (wd s 192))) (Nat.add k (wd w 0))
noncomputable def t2(s a:Nat):Nat:=Nat.add (AS 2 13 22 (sS a)) (I5 a (wd s 32) (wd s 64))
noncomputable def Im(s t u:Nat):Nat:=Nat.add (Nat.add (m32 (Nat.add t u)) (Nat.mul (Nat.mod s 79228162514264337593543950336) 4294967296)) (Nat.mul (Nat.add (m32 (Nat.add (wd s 96) t)) (Nat.mul (Nat.mod (Nat.shiftRight s 128) 79228162514264337593543950336) 4294967296)) 340282366920938463463374607431768211456)
noncomputable def I6(w x y:Nat):Nat:=m32 (Nat.add (Nat.add (wd w 0) (AT 7 18 3 x (sS x))) (Nat.add (wd w 288) (AT 17 19 10 y (sS y))))
noncomputable def I7(w:Nat):Nat:=Nat.add (Nat.shiftRight w 32) (Nat.mul (I6 w (wd w 32) (wd w 448)) 3121748550315992231381597229793166305748598142664971150859156959625371738819765620120306103063491971159826931121406622895447975679288285306290176)
noncomputable def rounds(ks:List Nat):Nat→Nat→Nat:=
 @List.rec Nat (fun _=>Nat→Nat→Nat) (fun s _=>s) (fun k _ ih s w=>fN (t1 k s w (wd s 128)) fun t=>fN (Im s t (t2 s (wd s 0))) fun s=>fN (I7 w) fun w=>ih s w) ks
noncomputable def AU(n:Nat):Nat→Nat→Nat:=@Nat.rec (fun _=>Nat→Nat→Nat) (fun _ _=>0) (fun _ ih a b=>Nat.add (m32 (Nat.add a b)) (Nat.mul (ih (Nat.shiftRight a 32) (Nat.shiftRight b 32)) 4294967296)) n
def jk:List Nat:=[1116352408,1899447441,3049323471,3921009573,961987163,1508970993,2453635748,2870763221,3624381080,310598401,607225278,1426881987,1925078388,2162078206,2614888103,3248222580,3835390401,4022224774,264347078,604807628,770255983,1249150122,1555081692,1996064986,2554220882,2821834349,2952996808,3210313671,3336571891,3584528711,113926993,338241895,666307205,773529912,1294757372,1396182291,1695183700,1986661051,2177026350,2456956037,2730485921,2820302411,3259730800,3345764771,3516065817,3600352804,4094571909,275423344,430227734,506948616,659060556,883997877,958139571,1322822218,1537002063,1747873779,1955562222,2024104815,2227730452,2361852424,2428436474,2756734187,3204031479,3329325298]
noncomputable def words{α:Type}(n:Nat):List Nat→(Nat→List Nat→Option α)→Option α:=
 @Nat.rec (fun _=>List Nat→(Nat→List Nat→Option α)→Option α) (fun l k=>k 0 l)
  (fun _ ih l k=>@List.casesOn Nat (fun _=>Option α) l none fun a l=>@List.casesOn Nat (fun _=>Option α) l none fun b l=>@List.casesOn Nat (fun _=>Option α) l none fun c l=>@List.casesOn Nat (fun _=>Option α) l none fun d l=>
   ih l fun w l=>fN (Nat.add (Nat.add (Nat.mul (Nat.add (Nat.mul (Nat.add (Nat.mul a 256) b) 256) c) 256) d) (Nat.mul w 4294967296)) fun w=>k w l) n
noncomputable def blocks(n:Nat):List Nat→Nat→Option Nat:=
 @Nat.rec (fun _=>List Nat→Nat→Option Nat) (fun _ _=>none)
  (fun _ ih l h=>@List.casesOn Nat (fun _=>Option Nat) l (some h) fun x m=>words 16 (x::m) fun w l=>fN (rounds jk h w) fun s=>fN (AU 8 h s) fun h=>ih l h) n
noncomputable def zb{α:Type}(l m:List α):List α:=@List.rec α (fun _=>List α) m (fun a _ ih=>a::ih) l
noncomputable def cO(n:Nat)(l:List Nat):List Nat:=@Nat.rec (fun _=>List Nat) l (fun _ ih=>0::ih) n
noncomputable def ln(n:Nat):Nat→List Nat→List Nat:=@Nat.rec (fun _=>Nat→List Nat→List Nat) (fun _ l=>l) (fun _ ih x l=>fN (Nat.mod x 256) fun y=>fN (Nat.shiftRight x 8) fun z=>ih z (y::l)) n
noncomputable def pad(l:List Nat):List Nat:=fN (kB l) fun n=>zb l (128::cO (Nat.sub 63 (Nat.mod (Nat.add n 8) 64)) (ln 8 (Nat.mul 8 n) []))
noncomputable def FW(n:Nat):Nat→List Nat:=@Nat.rec (fun _=>Nat→List Nat) (fun _=>[]) (fun _ ih s=>ln 4 (wd s 0) (ih (Nat.shiftRight s 32))) n
noncomputable def CO(l:List Nat):Option (List Nat):=bO (blocks 1000 (pad l) 41557658498906279274860226408925318911382702236748615442085426012007055353447) fun r=>some (FW 8 r)
end Go.Cm
namespace Go.Cm
inductive Xt where
 |gj
 |ext (i:Nat)
 |ret
inductive Rs where
 |mk (x:Xt) (tm:T V) (hp:T ah) (nx:Id) (df:V)
abbrev cX:=Code→FuncId→Nat→T V→T ah→Id→V→Option Rs
abbrev ir:=T V→T ah→Id→V→Option Rs
noncomputable def zE{α:Type}(r:Option Rs)(k:Xt→T V→T ah→Id→V→Option α):Option α:=
 @Option.rec Rs (fun _=>Option α) none (fun r=>@Rs.casesOn (fun _=>Option α) r k) r
noncomputable def eJ(tm:T V)(o:Operand):Option V:=
 @Operand.casesOn (fun _=>Option V) o (fun t=>get (aA t) tm) (fun v=>cV v) (fun _=>none) (fun f=>some (.fn f .nil .nil))
noncomputable def iK(tm:T V)(l:List Operand):Option V:=
 @List.rec Operand (fun _=>Option V) (some .nil) (fun o _ ih=>bO (eJ tm o) fun v=>bO ih fun r=>some (.cons v r)) l
noncomputable def CP(tm:T V)(l:List (Nat×Operand)):Option (List (Nat×V)):=
 @List.rec (Nat×Operand) (fun _=>Option (List (Nat×V))) (some []) (fun o _ ih=>bO (eJ tm o.2) fun v=>bO ih fun r=>some ((o.1,v)::r)) l
noncomputable def CQ(tm:T V)(o:Option Operand):Option (Option V):=
 @Option.rec Operand (fun _=>Option (Option V)) (some none) (fun o=>bO (eJ tm o) fun v=>some (some v)) o
noncomputable def gu{β:Type}(d:Option Tmp)(v:Option V)(tm:T V)(k:T V→β):β:=
 @Option.rec Tmp (fun _=>β) (k tm) (fun t=>db v (aA t) tm k) d
noncomputable def m8(e:bx)(d:Option Tmp)(tm:T V)(hp:T ah)(nx:Id)(df:V)(k:ir):Option Rs:=
 @bx.casesOn (fun _=>Option Rs) e (fun x=>gu d (some x) tm fun tm=>k tm hp nx df)
  (fun x b=>gu d (some x) tm fun tm=>db (some b) nx hp fun hp=>AP (jv nx) fun nx=>k tm hp nx df)
  (fun x b bl=>gu d (some x) tm fun tm=>db (some bl) b hp fun hp=>k tm hp nx df)
  (fun x b bl=>gu d (some x) tm fun tm=>db none b hp fun hp=>db (some bl) nx hp fun hp=>AP (jv nx) fun nx=>k tm hp nx df)
noncomputable def vE(x:Option V):Option bx:=bO x fun x=>some (.v x)
noncomputable def E8(P:Program)(gl:List V)(t:TypeId)(g:Nat):Option bx:=
 bO (ei gl g) fun x=>x.ag fun l=>bO (P.underlying t) fun d=>bd (iv d) (bO (P.info? t) fun i=>bd (Nat.beq (me l) i.size) (some (.v (.agg l))))
abbrev CS:=T V→(Id→Option ah)→Id→Option bx
inductive I8 where
 |mk (f:CS)
noncomputable def xS(P:Program)(hb:Id→Option ah)(t:TypeId)(x k:V):Option bx:=
 bO (P.underlying t) fun d=>match d with
  | .map kt e=>bO (lk P kt k k) fun kk=>bd kk (x.mp (fun b=>bO (hb b) fun bl=>bl.tD fun es ck=>bO (mY P kt k es) fun r=>@Option.rec V (fun _=>Option bx) (bO (zeroV P e) fun z=>bO (kJ P kt k z ck es) fun es'=>fN (Nat.succ ck) fun ck'=>some (.ch (.bJ (.cons z (.cons (.i .i64 (Int.ofNat ck)) .nil))) b (.m es' ck'))) (fun _=>none) r) none)
  |_=>none
noncomputable def xT(n:Nat)(y:V)(es:Es):Option Es:=
 @Es.rec (fun _=>Option Es) none (fun k v n' l ih=>@Bool.rec (fun _=>Option Es) (bO ih fun r=>some (.cons k v n' r)) (some (.cons k y n' l)) (Nat.beq n' n)) es
noncomputable def DY(hb:Id→Option ah)(x s y:V):Option bx:=
 x.mp (fun b=>bO (hb b) fun bl=>bl.tD fun es ck=>s.int fun _ n=>DH n fun n=>bO (xT n y es) fun es'=>some (.ch .un b (.m es' ck))) none
noncomputable def lq(P:Program)(gl:List V)(op:Op):I8:=
 match op with
 | .move x| .assign x=>.mk fun tm _ _=>vE (eJ tm x)
 | .pick c a b=>.mk fun tm _ _=>bO (eJ tm c) fun c=>c.bool fun c=>@Bool.rec (fun _=>Option bx) (vE (eJ tm b)) (vE (eJ tm a)) c
 | .alloc t=>.mk fun _ _ nx=>yp P nx t
 | .box t x=>.mk fun tm _ nx=>bO (eJ tm x) fun x=>D9 nx t x
 | .build t ps=>.mk fun tm _ _=>bO (CP tm ps.toList) fun ps=>vE (ku P t ps)
 | .buildSlice t n ps=>.mk fun tm _ nx=>bO (CP tm ps.toList) fun ps=>dD P nx t n ps
 |
  .load t a=>match a with
  | .global g=>.mk fun _ _ _=>E8 P gl t g
  |_=>.mk fun tm hb _=>bO (eJ tm a) fun a=>vE (du P hb t a)
 | .store t a x=>.mk fun tm hb _=>bO (eJ tm a) fun a=>bO (eJ tm x) fun x=>bO (kq P hb t a x) fun r=>some (.ch .un r.1 r.2)
 | .nilCheck x=>.mk fun tm _ _=>bO (eJ tm x) fun x=>vE (pR x)
 | .binOp op t x y _=>.mk fun tm _ _=>bO (eJ tm x) fun a=>bO (eJ tm y) fun b=>vE (nK P (@Bool.rec (fun _=>Bool) (y6 y) true (y6 x)) op t a b)
 | .unOp op _ x=>.mk fun tm _ _=>bO (eJ tm x) fun x=>vE (za op x)
 | .convert s d x=>.mk fun tm hb nx=>bO (eJ tm x) fun x=>mX P hb nx s d x
 | .makeInterface t x=>.mk fun tm _ _=>bO (eJ tm x) fun x=>vE (xO P t x)
 |
  .makeFunc fn fs cs=>match fn with
  | .func f=>.mk fun tm _ _=>bO (iK tm fs.toList) fun fs=>bO (iK tm cs.toList) fun cs=>some (.v (.fn f fs cs))
  |_=>.mk fun _ _ _=>none
 | .makeMap t r=>.mk fun tm _ nx=>bO (CQ tm r) fun r=>xP P nx t r
 | .makeSlice t l c=>.mk fun tm _ nx=>bO (eJ tm l) fun l=>bO (eJ tm c) fun c=>rC P nx t l c
 |
  .slice t x lo hi mx=>match mx with
  |none=>.mk fun tm _ _=>bO (eJ tm x) fun x=>bO (CQ tm lo) fun lo=>bO (CQ tm hi) fun hi=>vE (kb P t x lo hi)
  |_=>.mk fun _ _ _=>none
 | .fieldAddr t x i=>.mk fun tm _ _=>bO (eJ tm x) fun x=>vE (dv P t x i)
 | .field t x i=>.mk fun tm _ _=>bO (eJ tm x) fun x=>vE (yu P t x i)
 | .indexAddr t x i=>.mk fun tm _ _=>bO (eJ tm x) fun x=>bO (eJ tm i) fun i=>vE (eL P t x i)
 | .index t x i=>.mk fun tm _ _=>bO (eJ tm x) fun x=>bO (eJ tm i) fun i=>vE (kg P t x i)
 | .lookup t x i ok=>.mk fun tm hb _=>bO (eJ tm x) fun x=>bO (eJ tm i) fun i=>vE (iH P hb t x i ok)
 | .mapUpdate t m k x| .insert t m k x=>.mk fun tm hb _=>bO (eJ tm m) fun m=>bO (eJ tm k) fun k=>bO (eJ tm x) fun x=>uL P hb t m k x
 | .mapEntry t m k=>.mk fun tm hb _=>bO (eJ tm m) fun m=>bO (eJ tm k) fun k=>xS P hb t m k
 | .entryStore _ m s x=>.mk fun tm hb _=>bO (eJ tm m) fun m=>bO (eJ tm s) fun s=>bO (eJ tm x) fun x=>DY hb m s x
 | .range t x=>.mk fun tm hb nx=>bO (eJ tm x) fun x=>xQ P hb nx t x
 | .next x s=>.mk fun tm hb _=>bO (eJ tm x) fun x=>AR hb x s
 | .typeAssert x _ t ok=>.mk fun tm _ _=>bO (eJ tm x) fun x=>vE (uK P t ok x)
 | .extract x i=>.mk fun tm _ _=>bO (eJ tm x) fun x=>vE (rD x i)
 |_=>.mk fun _ _ _=>none
noncomputable def zd{α:Type}(l:V)(f:V→V→Option α):Option α:=l.split none f none
noncomputable def fy(P:Program)(hb:Id→Option ah)(nx:Id)(b:Builtin)(ts:List TypeId)(a:V):Option bx:=
 match b with
 | .len=>zd a fun x _=>bO (ei ts 0) fun t=>vE (rU P hb t x)
 | .append=>zd a fun s r=>zd r fun x _=>bO (ei ts 0) fun t=>bO (ei ts 1) fun t2=>iF P hb nx t t2 s x
 | .copy=>zd a fun s r=>zd r fun x _=>bO (ei ts 0) fun t=>mO P hb t s x
 | .max=>vE (rr a)
 | .min=>vE (rq a)
 |_=>none
noncomputable def uM{β:Type}(args:V):Id→T V→(T V→β)→β:=
 @V.rec (fun _=>Id→T V→(T V→β)→β) (fun _ _ t k=>k t) (fun _ _ _ t k=>k t) (fun _ _ t k=>k t) (fun _ _ _ t k=>k t) (fun _ t k=>k t) (fun _ _ _ _ _ t k=>k t) (fun _ _ _ _ _ t k=>k t) (fun _ t k=>k t) (fun _ t k=>k t) (fun _ _ t k=>k t) (fun _ t k=>k t) (fun _ _ _ _ _ _ t k=>k t) (fun _ _ t k=>k t) (fun _ t k=>k t) (fun _ _ _ _ t k=>k t) (fun _ t k=>k t) (fun _ _ _ t k=>k t) (fun _ _ _ t k=>k t) (fun _ t k=>k t) (fun _ t k=>k t)
  (fun a _ _ ih p t k=>db (some a) p t fun t=>AP (jv p) fun p=>ih p t k) args
noncomputable def lV(P:Program)(hp:T ah)(tm:T V)(l:List ResultVar):Option V:=
 @List.rec ResultVar (fun _=>Option V) (some .nil) (fun r _ ih=>bO (@ResultVar.casesOn (fun _=>Option V) r (fun t=>get (aA t) tm) (fun a t=>bO (get (aA a) tm) fun p=>du P (fun b=>get b hp) t p)) fun v=>bO ih fun l=>some (.cons v l)) l
noncomputable def one(l:V):V:=l.split (.bJ l) (fun a m=>m.split a (fun _ _=>.bJ l) a) (.bJ l)
noncomputable def ah.CU(k:ah):Bool:=@ah.casesOn (fun _=>Bool) k (fun _ _=>false) (fun _ _=>false) (fun _ _=>false) (fun _ _ _ _=>false) (fun _ _=>false) (fun _ _ _ _ _ _ _ _ _=>false) true
noncomputable def ah.E9{α:Type}(k:ah)(f:LoopState→Option Code→FuncId→T V→Nat→Array Tmp→Code→Code→Id→Option α):Option α:=
 @ah.casesOn (fun _=>Option α) k (fun _ _=>none) (fun _ _=>none) (fun _ _=>none) (fun _ _ _ _=>none) (fun _ _=>none) f none
noncomputable def AW(x:V):Bool:=@V.casesOn (fun _=>Bool) x (fun _=>true) (fun _ _=>true) (fun _=>true) (fun _ _=>true) true (fun _ _ n c=>Nat.ble n c) (fun _ _ _ _=>true) true true (fun _=>true) true (fun _ _ _=>true) (fun _=>true) true (fun _ _=>true) true (fun _=>true) (fun _=>true) true true (fun _ _=>true)
noncomputable def AX(hp:T ah)(l:V):Option (List Nat):=
 @V.rec (fun _=>Option (List Nat)) (fun _=>none) (fun _ _=>none) (fun _=>none) (fun _ _=>none) none (fun _ _ _ _=>none) (fun _ _ _ _=>none) none none (fun _=>none) none (fun _ _ _ _ _=>none) (fun _=>none) none (fun _ _ _=>none) none (fun _ _=>none) (fun _ _=>none) none (some [])
  (fun a _ _ ih=>bd (AW a) (uJ (fun b=>get b hp) a fun x=>bO ih fun r=>some (zb x r))) l
noncomputable def AY(hp:T ah)(b:Id)(o n:Nat):Option V:=
 bd (Nat.ble n 1000) (bO (get b hp) fun k=>k.cells fun l=>bO (bW o n l) fun c=>bO (AX hp c) fun s=>bd (Nat.ble (kB s) 60000) (bO (CO s) fun d=>fC (kC d) fun r=>some (.agg r)))
noncomputable def rE(hp:T ah)(args:V):Option V:=
 args.split none (fun x r=>r.split (x.tq (fun b o n c=>bd (Nat.ble n c) (AY hp b o n)) (fun b o n _=>AY hp b o n) (bO (CO []) fun d=>fC (kC d) fun r=>some (.agg r))) (fun _ _=>none) none) none
noncomputable def tag(x:V):Nat:=@V.casesOn (fun _=>Nat) x (fun _=>0) (fun _ _=>1) (fun _=>2) (fun _ _=>3) 4 (fun _ _ _ _=>5) (fun _ _ _ _=>6) 7 8 (fun _=>9) 10 (fun _ _ _=>11) (fun _=>12) 13 (fun _ _=>14) 15 (fun _=>16) (fun _=>17) 18 19 (fun _ _=>20)
noncomputable def bk(a b:Bool):Bool:=@Bool.rec (fun _=>Bool) false b a
noncomputable def Fa(a b:Bool):Bool:=@Bool.rec (fun _=>Bool) (cD b) b a
noncomputable def eK(x:V):V→Option Bool:=
 @V.rec (fun _=>V→Option Bool) (fun b y=>y.bool fun c=>some (Fa b c)) (fun k n y=>y.int fun k' m=>some (bk (wa k k') (tw n m))) (fun l y=>y.str fun m=>some (B7 l m)) (fun b o y=>y.ptr fun c p=>some (bk (jw b c) (Nat.beq o p)))
  (fun y=>some (Nat.beq (tag y) 4)) (fun b o l c y=>y.tq (fun b' o' l' c'=>some (bk (jw b b') (bk (Nat.beq o o') (bk (Nat.beq l l') (Nat.beq c c'))))) (fun _ _ _ _=>none) none) (fun b o l c y=>y.tq (fun _ _ _ _=>none) (fun b' o' l' c'=>some (bk (jw b b') (bk (Nat.beq o o') (bk (Nat.beq l l') (Nat.beq c c'))))) none)
  (fun y=>some (Nat.beq (tag y) 7)) (fun y=>some (Nat.beq (tag y) 8)) (fun b y=>y.mp (fun c=>some (jw b c)) none) (fun y=>some (Nat.beq (tag y) 10))
  (fun f _ _ ia ib y=>y.CL (fun g c d=>bO (ia c) fun p=>bO (ib d) fun q=>some (bk (Nat.beq f g) (bk p q))) fun _=>none) (fun _ _=>none) (fun y=>some (Nat.beq (tag y) 13))
  (fun t _ ih y=>y.CM (fun t' v=>bO (ih v) fun p=>some (bk (Nat.beq t t') p)) none) (fun y=>some (Nat.beq (tag y) 15)) (fun _ ih y=>y.ag ih) (fun _ ih y=>y.tu ih) (fun _=>none)
  (fun y=>y.split (some true) (fun _ _=>none) none) (fun _ _ ia il y=>y.split none (fun b m=>bO (ia b) fun p=>@Bool.rec (fun _=>Option Bool) (some false) (il m) p) none) x
noncomputable def isTrue(o:Option Bool):Bool:=@Option.rec Bool (fun _=>Bool) false (fun b=>b) o
inductive Xr where
 |mk (v:V) (hp:T ah) (nx:Id)
structure Hk where
 h:Nat
 k:Nat
 t:List (Nat×V×V)
 x:Nat
 xf:V→T ah→Id→Option Xr
noncomputable def jU(t:List (Nat×V×V))(f:Nat)(a:V):Option V:=
 @List.rec (Nat×V×V) (fun _=>Option V) none (fun e _ ih=>@Bool.rec (fun _=>Option V) ih (@Bool.rec (fun _=>Option V) ih (some e.2.2) (isTrue (eK e.2.1 a))) (Nat.beq e.1 f)) t
noncomputable def iL(P:Program)(hf:Hk)(ih:cX)(uP:V→T ah→Id→(T ah→Id→Option Rs)→Option Rs)(f:FuncId)(args:V)(hp:T ah)(nx:Id)(k:V→T ah→Id→Option Rs):Option Rs:=
 @Bool.rec (fun _=>Option Rs)
  (@Bool.rec (fun _=>Option Rs) (@Option.rec V (fun _=>Option Rs) (bO (ei P.funcs.toList f) fun fn=>bO fn.body fun c=>uM args [] .e fun tm=>zE (ih c f fn.ntmps tm hp nx .nil) fun x tm hp nx df=>
   @Xt.casesOn (fun _=>Option Rs) x (uP df hp nx fun hp nx=>bO (lV P hp tm fn.results.toList) fun v=>k (one v) hp nx) (fun _=>none) (uP df hp nx fun hp nx=>bO (lV P hp tm fn.results.toList) fun v=>k (one v) hp nx)) (fun v=>k v hp nx) (@Bool.rec (fun _=>Option V) none (jU hf.t f args) (Nat.testBit hf.k f))) (bO (hf.xf args hp nx) fun r=>@Xr.casesOn (fun _=>Option Rs) r k) (Nat.beq f hf.x))
  (bO (rE hp args) fun v=>k v hp nx) (Nat.beq f hf.h)
noncomputable def Fb(o:Op):Bool:=match o with
 |
  .call c=>match c.callee with
  |
   .builtin b=>match b with
   | .recover=>c.args.isEmpty
   |_=>false
  |_=>false
 |_=>false
noncomputable def Fe(o:Op):Option Tmp:=match o with
 |
  .assign x=>match x with
  | .tmp t=>some t
  |_=>none
 |_=>none
noncomputable def AZ(l:List Oper):Option (Tmp×Tmp):=match l with
 |[o0,o1]=>bd (Fb o0.op) (bd o0.guard.isNone (bd o1.guard.isNone (bO o0.dst fun t5=>bO o1.dst fun t2=>bO (Fe o1.op) fun t=>bd (Nat.beq t t5) (some (t5,t2)))))
 |_=>none
noncomputable def pS(c:Code):Option (Tmp×Tmp×Code):=match c with
 |
  .seq a rest=>match a with
  | .region _ ops d=>bd (cD d) (bO (AZ ops.toList) fun p=>some (p.1,p.2,rest))
  |_=>none
 |_=>none
noncomputable def CV(P:Program)(ih:cX)(f:FuncId)(args:V)(hp:T ah)(nx:Id)(k:T ah→Id→Option Rs):Option Rs:=
 bO (ei P.funcs.toList f) fun fn=>bO fn.body fun c=>bO (pS c) fun s=>bd (Nat.ble (Nat.succ s.1) fn.ntmps) (bd (Nat.ble (Nat.succ s.2.1) fn.ntmps) (uM args [] .e fun tm=>db (some .ni) (aA s.1) tm fun tm=>db (some .ni) (aA s.2.1) tm fun tm=>
  zE (ih s.2.2 f fn.ntmps tm hp nx .nil) fun x tm hp nx df=>@Xt.casesOn (fun _=>Option Rs) x (df.split (bO (lV P hp tm fn.results.toList) fun _=>k hp nx) (fun _ _=>none) none) (fun _=>none) (df.split (bO (lV P hp tm fn.results.toList) fun _=>k hp nx) (fun _ _=>none) none)))
noncomputable def iM(P:Program)(ih:cX)(df:V):T ah→Id→(T ah→Id→Option Rs)→Option Rs:=
 @V.rec (fun _=>T ah→Id→(T ah→Id→Option Rs)→Option Rs) (fun _ _ _ _=>none) (fun _ _ _ _ _=>none) (fun _ _ _ _=>none) (fun _ _ _ _ _=>none) (fun _ _ _=>none) (fun _ _ _ _ _ _ _=>none) (fun _ _ _ _ _ _ _=>none) (fun _ _ _=>none) (fun _ _ _=>none) (fun _ _ _ _=>none) (fun _ _ _=>none) (fun _ _ _ _ _ _ _ _=>none) (fun _ _ _ _=>none) (fun _ _ _=>none) (fun _ _ _ _ _ _=>none) (fun _ _ _=>none) (fun _ _ _ _ _=>none) (fun _ _ _ _ _=>none) (fun _ _ _=>none)
  (fun hp nx k=>k hp nx)
  (fun a _ _ rest hp nx k=>@Bool.rec (fun _=>Option Rs)
   (a.CL (fun f fs cs=>fC (gU fs cs) fun args=>CV P ih f args hp nx fun hp nx=>rest hp nx k) fun _=>none)
   (a.mp (fun b=>bO (get b hp) fun bl=>bd bl.CU (db none b hp fun hp=>rest hp nx k)) none) (@Option.rec Bool (fun _=>Bool) false (fun b=>b) (a.mp (fun _=>some true) none))) df
noncomputable def Ff{α:Type}(sz:Nat)(ps:List Tmp):V→T V→(T V→Option α)→Option α:=
 @List.rec Tmp (fun _=>V→T V→(T V→Option α)→Option α) (fun a t k=>a.split (k t) (fun _ _=>none) none) (fun p _ ih a t k=>a.split none (fun x r=>bd (Nat.ble (Nat.succ p) sz) (db (some x) (aA p) t fun t=>ih r t k)) none) ps
noncomputable def Fg(b:Id)(k:V→T ah→Id→Option Rs)(x:Xt)(hp:T ah)(nx:Id):Option Rs:=
 bO (
  get b hp) fun bl=>bl.E9 fun _ _ fn tm sz ps asg body d=>
  @Xt.casesOn (fun _=>Option Rs) x (db (some (.lp .ready none fn tm sz ps asg body d)) b hp fun hp=>k (.b true) hp nx)
   (fun i=>db (some (.lp .done (some (.exit i)) fn tm sz ps asg body d)) b hp fun hp=>k (.b false) hp nx)
   (db (some (.lp .done (some .ret) fn tm sz ps asg body d)) b hp fun hp=>k (.b false) hp nx)
noncomputable def DZ(ih:cX)(b:Id)(k:V→T ah→Id→Option Rs)(fn sz:Nat)(body:Code)(t:T V)(hp:T ah)(nx:Id)(df:V):Option Rs:=
 bO (get b hp) fun bl=>bl.E9 fun st pe fn' tm sz' ps asg body' d=>@LoopState.casesOn (fun _=>Option Rs) st
  (db (some (.lp .busy pe fn' tm sz' ps asg body' d)) b hp fun hp=>zE (ih body fn sz t hp nx df) fun x _ hp nx _=>Fg b k x hp nx) none none none
noncomputable def A0(ih:cX)(b:Id)(args:V)(hp:T ah)(nx:Id)(k:V→T ah→Id→Option Rs):Option Rs:=
 bO (get b hp) fun bl=>bl.E9 fun _ _ fn tm sz ps asg body _=>
  Ff sz ps.toList args tm fun t=>zE (ih asg fn sz t hp nx (.yl b)) fun x t hp nx df=>@Xt.casesOn (fun _=>Option Rs) x (DZ ih b k fn sz body t hp nx df) (fun _=>none) none
noncomputable def uN(P:Program)(hf:Hk)(ih:cX)(fv args:V)(hp:T ah)(nx:Id)(k:V→T ah→Id→Option Rs):Option Rs:=
 fv.CL (fun f fs cs=>fC (gU fs (gU args cs)) fun a=>iL P hf ih (iM P ih) f a hp nx k) fun b=>A0 ih b args hp nx k
noncomputable def dF(l:List Method)(name:String):Option Method:=
 @List.rec Method (fun _=>Option Method) none (fun m _ ih=>@Bool.rec (fun _=>Option Method) ih (some m) (m.name==name)) l
noncomputable def xU(P:Program)(t:TypeId):Option (Option TypeId):=bO (P.underlying t) fun d=>match d with
 | .pointer e=>some (some e)
 |_=>some none
noncomputable def m9(P:Program)(hb:Id→Option ah)(t:TypeId)(v:V)(name:String):Option (FuncId×V):=
 bO (
  P.info? t) fun i=>bO (dF i.methods.toList name) fun m=>bO m.func fun fp=>match m.path.toList with
  |[]=>bO (xU P t) fun e=>@Option.rec TypeId (fun _=>Option (FuncId×V)) (@Bool.rec (fun _=>Option (FuncId×V)) (some (fp.1,v)) none fp.2)
   (fun _=>@Bool.rec (fun _=>Option (FuncId×V)) none (some (fp.1,v)) fp.2) e
  |
   [s]=>bd s.deref (bO (dv P s.struct v s.index) fun p=>bO (P.underlying s.struct) fun d=>match d with
   | .struct fs=>bO (ei fs.toList s.index) fun f=>bO (xU P f.type) fun e=>@Option.rec TypeId (fun _=>Option (FuncId×V)) (@Bool.rec (fun _=>Option (FuncId×V)) (bO (du P hb f.type p) fun x=>some (fp.1,x)) (some (fp.1,p)) fp.2) (fun _=>none) e
   |_=>none)
  |_=>none
noncomputable def pT(v:V)(f:Bool→Option Bool):Option Bool:=
 @V.casesOn (fun _=>Option Bool) v f (fun _ _=>none) (fun _=>none) (fun _ _=>none) none (fun _ _ _ _=>none) (fun _ _ _ _=>none) none none (fun _=>none) none (fun _ _ _=>none) (fun _=>none) none (fun _ _=>none) none (fun _=>none) (fun l=>l.split (some false) (fun _ _=>none) none) none none (fun _ _=>none)
noncomputable def want(ops:List Oper)(tm:T V)(g:Option (Nat×Bool)):Option Bool:=
 @Option.rec (Nat×Bool) (fun _=>Option Bool) (some true) (fun p=>bO (ei ops p.1) fun o=>bO o.dst fun d=>bO (get (aA d) tm) fun v=>pT v fun b=>some (@Bool.rec (fun _=>Bool) (cD p.2) p.2 b)) g
inductive Fh where
 |op (f:CS)
 |blt (b:Builtin) (args:List Operand) (ts:List TypeId)
 |val (f:Operand) (args:List Operand)
 |inv (r:Operand) (name:String) (args:List Operand)
 |uP (f:Operand) (args:List Operand)
 |no
noncomputable def I9(s:I8):Fh:=@I8.casesOn (fun _=>Fh) s fun f=>.op f
noncomputable def cR(P:Program)(gl:List V)(o:Op):Fh:=
 match o with
 |
  .call c=>match c.callee with
  | .builtin b=>.blt b c.args.toList c.argTypes.toList
  | .value f=>.val f c.args.toList
  | .invoke r name=>.inv r name c.args.toList
 |
  .defer c=>match c.callee with
  | .value f=>.uP f c.args.toList
  |_=>.no
 |_=>I9 (lq P gl o)
noncomputable def J2(dst:Option Tmp)(tm:T V)(hp:T ah)(nx:Id)(df:V)(k:ir)(f:CS):Option Rs:=bO (f tm (fun b=>get b hp) nx) fun e=>m8 e dst tm hp nx df k
noncomputable def G5(P:Program)(dst:Option Tmp)(tm:T V)(hp:T ah)(nx:Id)(df:V)(k:ir)(b:Builtin)(args:List Operand)(ts:List TypeId):Option Rs:=
 bO (iK tm args) fun a=>bO (fy P (fun b=>get b hp) nx b ts a) fun e=>m8 e dst tm hp nx df k
noncomputable def G6(P:Program)(hf:Hk)(ih:cX)(dst:Option Tmp)(tm:T V)(hp:T ah)(nx:Id)(df:V)(k:ir)(f:Operand)(args:List Operand):Option Rs:=
 bO (eJ tm f) fun fv=>bO (iK tm args) fun a=>uN P hf ih fv a hp nx fun v hp nx=>gu dst (some v) tm fun tm=>k tm hp nx df
noncomputable def G7(P:Program)(hf:Hk)(ih:cX)(dst:Option Tmp)(tm:T V)(hp:T ah)(nx:Id)(df:V)(k:ir)(r:Operand)(name:String)(args:List Operand):Option Rs:=
 bO (eJ tm r) fun r=>bO (iK tm args) fun a=>r.CM (fun t v=>bO (m9 P (fun b=>get b hp) t v name) fun fx=>iL P hf ih (iM P ih) fx.1 (.cons fx.2 a) hp nx fun v hp nx=>gu dst (some v) tm fun tm=>k tm hp nx df) none
noncomputable def Ja(df:V):Bool:=df.split true (fun _ _=>true) false
noncomputable def G8(dst:Option Tmp)(tm:T V)(hp:T ah)(nx:Id)(df:V)(k:ir)(f:Operand)(args:List Operand):Option Rs:=
 bO (eJ tm f) fun fv=>bO (iK tm args) fun a=>bd (Ja df) (fv.CL (fun f fs cs=>a.split (gu dst none tm fun tm=>k tm hp nx (.cons (.fn f fs cs) df)) (fun _ _=>none) none) fun _=>none)
noncomputable def G9(P:Program)(gl:List V)(hf:Hk)(ih:cX)(o:Oper)(tm:T V)(hp:T ah)(nx:Id)(df:V)(k:ir):Option Rs:=
 @Fh.casesOn (fun _=>Option Rs) (cR P gl o.op) (J2 o.dst tm hp nx df k) (G5 P o.dst tm hp nx df k) (G6 P hf ih o.dst tm hp nx df k) (G7 P hf ih o.dst tm hp nx df k) (G8 o.dst tm hp nx df k) none
noncomputable def lr(sz:Nat)(d:Option Tmp):Bool:=@Option.rec Tmp (fun _=>Bool) true (fun t=>Nat.ble (Nat.succ t) sz) d
noncomputable def ze(P:Program)(gl:List V)(hf:Hk)(ih:cX)(sz:Nat)(all:List Oper)(ops:List Oper):ir:=
 @List.rec Oper (fun _=>ir) (fun tm hp nx df=>some (.mk .gj tm hp nx df))
  (fun o _ rest tm hp nx df=>bd (lr sz o.dst) (bO (want all tm o.guard) fun w=>@Bool.rec (fun _=>Option Rs) (gu o.dst (some (.bJ .nil)) tm fun tm=>rest tm hp nx df) (G9 P gl hf ih o tm hp nx df rest) w)) ops
noncomputable def A1(a b:Option ah):Bool:=
 @Option.rec ah (fun _=>Bool) (@Option.rec ah (fun _=>Bool) true (fun _=>false) b)
  (fun a=>@Option.rec ah (fun _=>Bool) false (fun b=>
   @ah.casesOn (fun _=>Bool) a (fun l e=>@ah.casesOn (fun _=>Bool) b (fun m e'=>bk (Nat.beq e e') (isTrue (eK l m))) (fun _ _=>false) (fun _ _=>false) (fun _ _ _ _=>false) (fun _ _=>false) (fun _ _ _ _ _ _ _ _ _=>false) false)
    (fun l e=>@ah.casesOn (fun _=>Bool) b (fun _ _=>false) (fun m e'=>bk (Nat.beq e e') (isTrue (eK l m))) (fun _ _=>false) (fun _ _ _ _=>false) (fun _ _=>false) (fun _ _ _ _ _ _ _ _ _=>false) false)
    (fun _ _=>false) (fun _ _ _ _=>false) (fun _ _=>false) (fun _ _ _ _ _ _ _ _ _=>false) false) b) a
noncomputable def Io(x:V)(l:List Id):List Id:=
 @V.casesOn (fun _=>List Id) x (fun _=>l) (fun _ _=>l) (fun _=>l) (fun b _=>b::l) l (fun b _ _ _=>b::l) (fun b _ _ _=>b::l) l l (fun b=>b::l) l (fun _ _ _=>l) (fun _=>l) l (fun _ _=>l) l (fun _=>l) (fun _=>l) l l (fun _ _=>l)
noncomputable def Jb(o:Operand)(l:List Tmp):List Tmp:=@Operand.casesOn (fun _=>List Tmp) o (fun t=>t::l) (fun _=>l) (fun _=>l) (fun _=>l)
noncomputable def Ha(o:Oper):List Tmp:=
 @List.rec Operand (fun _=>List Tmp) (@Option.rec (Nat×Bool) (fun _=>List Tmp) [] (fun _=>[]) o.guard) (fun x _ ih=>Jb x ih) o.op.operands.toList
noncomputable def Hb{β:Type}(tm:T V)(ts:List Tmp):(T V→List Id→β)→β:=
 @List.rec Tmp (fun _=>(T V→List Id→β)→β) (fun k=>k .e []) (fun t _ ih k=>ih fun m l=>@Option.rec V (fun _=>β) (k m l) (fun v=>db (some v) (aA t) m fun m=>k m (Io v l)) (get (aA t) tm)) ts
noncomputable def pU(b:Id)(l:List Id):Bool:=@List.rec Id (fun _=>Bool) false (fun a _ ih=>@Bool.rec (fun _=>Bool) ih true (jw a b)) l
noncomputable def B6(l:List Id)(hp:T ah)(b:Id):Option ah:=@Bool.rec (fun _=>Option ah) none (get b hp) (pU b l)
inductive Rc where
 |pl (i:Nat) (rd wr:List Id) (lc:Option (Id×Nat×Nat))
 |cl (i:Nat) (Gx cP:T ah)
noncomputable def fA(e:bx)(nx:Id):List Id:=@bx.casesOn (fun _=>List Id) e (fun _=>[]) (fun _ _=>[nx]) (fun _ b _=>[b]) (fun _ b _=>[b,nx])
noncomputable def nL(e:bx)(l:List Id):Bool:=@bx.casesOn (fun _=>Bool) e (fun _=>true) (fun _ _=>true) (fun _ b _=>pU b l) (fun _ b _=>pU b l)
noncomputable def allI(p:Id→Bool)(l:List Id):Bool:=@List.rec Id (fun _=>Bool) true (fun a _ ih=>bk (p a) ih) l
noncomputable def gE(l:List Id)(m:List Id):Bool:=allI (fun b=>cD (pU b l)) m
noncomputable def zF(hp:T ah)(b:Id):Bool:=@Option.rec ah (fun _=>Bool) true (fun _=>false) (get b hp)
noncomputable def A2(o n:Nat)(a b:Option ah):Bool:=
 isTrue (bO a fun a=>bO b fun b=>a.cells fun l=>b.cells fun m=>bO (bW o n l) fun x=>bO (bW o n m) fun y=>eK x y)
noncomputable def na(lc:Option (Id×Nat×Nat))(h0 h1:T ah)(c:Id):Bool:=
 @Bool.rec (fun _=>Bool) (@Option.rec (Id×Nat×Nat) (fun _=>Bool) false (fun p=>bk (jw p.1 c) (A2 p.2.1 p.2.2 (get c h0) (get c h1))) lc) true (A1 (get c h0) (get c h1))
noncomputable def Hc(rd wr:List Id)(lc:Option (Id×Nat×Nat))(h0 h1:T ah):Bool:=bk (allI (fun c=>bk (zF h0 c) (zF h1 c)) wr) (allI (na lc h0 h1) rd)
noncomputable def indep(a b:Rc):Bool:=
 @Rc.casesOn (fun _=>Bool) a
  (fun _ rd wr lc=>@Rc.casesOn (fun _=>Bool) b (fun _ rd' wr' _=>bk (gE wr rd') (bk (gE wr wr') (gE wr' rd))) (fun _ h0 h1=>Hc rd wr lc h0 h1))
  (fun _ h0 h1=>@Rc.casesOn (fun _=>Bool) b (fun _ rd wr lc=>Hc rd wr lc h0 h1) (fun _ _ _=>false))
noncomputable def D0(a:Rc):Nat:=@Rc.casesOn (fun _=>Nat) a (fun i _ _ _=>i) (fun i _ _=>i)
noncomputable def cB(m:Nat)(r:Rc)(rs:List Rc):Bool:=
 @List.rec Rc (fun _=>Bool) true (fun a _ ih=>bk (@Bool.rec (fun _=>Bool) (indep a r) true (Nat.testBit m (D0 a))) ih) rs
noncomputable def Hd(all:List Oper)(g:Option (Nat×Bool))(l:List Tmp):List Tmp:=
 @Option.rec (Nat×Bool) (fun _=>List Tmp) l (fun p=>@Option.rec Oper (fun _=>List Tmp) l (fun o=>@Option.rec Tmp (fun _=>List Tmp) l (fun t=>t::l) o.dst) (ei all p.1)) g
structure Pe where
 i:Nat
 o:Oper
 m:Nat
 ts:List Tmp
def A3(o:Op):Bool:=match o with
 |
  .call c=>match c.callee with
  | .builtin _=>false
  |_=>true
 |_=>false
def sT(acc:List Nat)(o:Oper):Nat:=o.after.toList.foldl (fun s e=>if Region.binds .any e then s ||| 2^e.on ||| acc.getD e.on 0 else s) 0
def fa:List Oper→List Nat→List Nat
 |[],acc=>acc
 |o::l,acc=>fa l (acc++[sT acc o])
def He(ops:List Oper)(ms:List Nat):List Nat:=
 let n:=ops.length
 let front:=(List.range n).foldl (fun acc c=>if A3 ((ops[c]?).map (·.op) |>.getD (.waits 0)) then acc++(List.range n).filter (fun k=>((ms.getD c 0).testBit k||k==c)&& !acc.contains k) else acc) []
 front++(List.range n).filter (fun k=> !front.contains k)
noncomputable def rF(d:Option Tmp)(l:List Tmp):Bool:=@Option.rec Tmp (fun _=>Bool) false (fun t=>sR t l) d
noncomputable def A4(d e:Option Tmp):Bool:=@Option.rec Tmp (fun _=>Bool) false (fun t=>@Option.rec Tmp (fun _=>Bool) false (fun u=>Nat.beq t u) e) d
noncomputable def jn(a b:Pe):Bool:=bk (cD (rF a.o.dst b.ts)) (bk (cD (rF b.o.dst a.ts)) (cD (A4 a.o.dst b.o.dst)))
noncomputable def ki(p:Pe)(l:List Pe):Bool:=@List.rec Pe (fun _=>Bool) true (fun a _ ih=>bk (@Bool.rec (fun _=>Bool) (jn a p) true (Nat.testBit p.m a.i)) ih) l
noncomputable def Hf(all:List Oper)(ms:List Nat)(i:Nat):Option Pe:=bO (ei all i) fun o=>some ⟨i,o,ms.getD i 0,Hd all o.guard (Ha o)⟩
noncomputable def A5(all:List Oper)(ms:List Nat)(ord:List Nat):Nat→List Pe→Option (List Pe):=
 @List.rec Nat (fun _=>Nat→List Pe→Option (List Pe)) (fun done _acc=>bd (Nat.beq done (Nat.sub (Nat.pow 2 (kB all)) 1)) (some []))
  (fun i _ ih done acc=>bO (Hf all ms i) fun p=>bd (Nat.beq (Nat.land p.m done) p.m) (bd (cD (Nat.testBit done i)) (bd (ki p acc) (bO (ih (Nat.lor done (Nat.pow 2 i)) (p::acc)) fun l=>some (p::l))))) ord
noncomputable def wN(all:List Oper):Option (List Pe):=A5 all (fa all []) (He all (fa all [])) 0 []
def Hg(o:Op):Bool:=match o with
 | .load _ _| .store _ _ _| .convert _ _ _| .lookup _ _ _ _| .mapUpdate _ _ _ _| .insert _ _ _ _| .mapEntry _ _ _| .entryStore _ _ _ _| .range _ _| .next _ _=>true
 |
  .call c=>match c.callee with
  |
   .builtin b=>match b with
   | .append| .copy=>true
   |_=>false
  |_=>true
 |_=>false
noncomputable def Ip{β:Type}(o:Op)(ids:List Id)(k:List Id→β):β:=@Bool.rec (fun _=>β) (k []) (k ids) (Hg o)
noncomputable def KE(P:Program)(t:TypeId):Option Nat:=bO (P.underlying t) fun d=>bO (P.info? t) fun i=>some (@Bool.rec (fun _=>Nat) 1 i.size (iv d))
noncomputable def qF(P:Program)(tm:T V)(op:Op):Option (Id×Nat×Nat):=match op with
 | .load t a=>bO (eJ tm a) fun v=>v.ptr fun b o=>bO (KE P t) fun n=>some (b,o,n)
 |_=>none
noncomputable def lW(P:Program)(gl:List V)(hf:Hk)(ih:cX)(sz:Nat)(all:List Oper)(pl:List Pe):List Rc→ir:=
 @List.rec Pe (fun _=>List Rc→ir) (fun _ tm hp nx df=>some (.mk .gj tm hp nx df))
  (fun p _ rest rs tm hp nx df=>bd (lr sz p.o.dst) (bO (want all tm p.o.guard) fun w=>@Bool.rec (fun _=>Option Rs)
   (gu p.o.dst none tm fun tm=>rest (.pl p.i [] [] none::rs) tm hp nx df)
   (Hb tm p.ts fun tmr ids0=>Ip p.o.op ids0 fun ids=>@Fh.casesOn (fun _=>Option Rs) (cR P gl p.o.op)
    (fun f=>bO (f tmr (B6 ids hp) nx) fun e=>bd (nL e ids) (bd (cB p.m (.pl p.i ids (fA e nx) (qF P tmr p.o.op)) rs) (m8 e p.o.dst tm hp nx df (rest (.pl p.i ids (fA e nx) (qF P tmr p.o.op)::rs)))))
    (fun b args ts=>bO (iK tmr args) fun a=>bO (fy P (B6 ids hp) nx b ts a) fun e=>bd (nL e ids) (bd (cB p.m (.pl p.i ids (fA e nx) none) rs) (m8 e p.o.dst tm hp nx df (rest (.pl p.i ids (fA e nx) none::rs)))))
    (fun f args=>bO (eJ tmr f) fun fv=>bO (iK tmr args) fun a=>uN P hf ih fv a hp nx fun v cP dK=>bd (cB p.m (.cl p.i hp cP) rs) (gu p.o.dst (some v) tm fun tm=>rest (.cl p.i hp cP::rs) tm cP dK df))
    (fun r name args=>bO (eJ tmr r) fun r=>bO (iK tmr args) fun a=>r.CM (fun t v=>bO (m9 P (fun b=>get b hp) t v name) fun fx=>iL P hf ih (iM P ih) fx.1 (.cons fx.2 a) hp nx fun v cP dK=>bd (cB p.m (.cl p.i hp cP) rs) (gu p.o.dst (some v) tm fun tm=>rest (.cl p.i hp cP::rs) tm cP dK df)) none)
    (fun _ _=>none) none) w)) pl
noncomputable def Hh(pe:Option Code)(tm:T V)(hp:T ah)(nx:Id)(df:V):Option Rs:=
 bO pe fun c=>@Code.casesOn (fun _=>Option Rs) c none (fun _ _ _=>none) (fun _ _=>none) (fun _ _ _=>none) (fun _ _=>none) (fun _=>none) (fun _ _ _ _=>none) (fun i=>some (.mk (.ext i) tm hp nx df)) (fun _=>none) (fun _=>none) (fun _=>none) (some (.mk .ret tm hp nx df)) (fun _=>none)
noncomputable def CW(l:Id)(tm:T V)(df:V)(hp:T ah)(nx:Id):Option Rs:=
 bO (get l hp) fun bl=>bl.E9 fun st pe _ _ _ _ _ _ _=>@LoopState.casesOn (fun _=>Option Rs) st (db none l hp fun hp=>@Option.rec Code (fun _=>Option Rs) (some (.mk .gj tm hp nx df)) (fun _=>none) pe) none (db none l hp fun hp=>Hh pe tm hp nx df) none
noncomputable def Jc(P:Program)(gl:List V)(hf:Hk)(ih:cX)(_:Nat)(ops:Array Oper)(d:Bool)(_:FuncId)(sz:Nat):ir:=
 @Bool.rec (fun _=>ir) (ze P gl hf ih sz ops.toList ops.toList) (fun tm hp nx df=>bO (wN ops.toList) fun pl=>lW P gl hf ih sz ops.toList pl [] tm hp nx df) d
noncomputable def Hi(ih:cX)(a b:Code)(fid sz:Nat)(tm:T V)(hp:T ah)(nx:Id)(df:V):Option Rs:=
 zE (ih a fid sz tm hp nx df) fun x tm hp nx df=>@Xt.casesOn (fun _=>Option Rs) x (ih b fid sz tm hp nx df) (fun i=>some (.mk (.ext i) tm hp nx df)) (some (.mk .ret tm hp nx df))
noncomputable def D1(ih:cX)(c:Operand)(a b:Code)(fid sz:Nat)(tm:T V)(hp:T ah)(nx:Id)(df:V):Option Rs:=
 bO (eJ tm c) fun v=>v.bool fun t=>@Bool.rec (fun _=>Option Rs) (ih b fid sz tm hp nx df) (ih a fid sz tm hp nx df) t
noncomputable def A6(ih:cX)(id:Nat)(a:Code)(fid sz:Nat)(tm:T V)(hp:T ah)(nx:Id)(df:V):Option Rs:=
 zE (ih a fid sz tm hp nx df) fun x tm hp nx df=>@Xt.casesOn (fun _=>Option Rs) x (some (.mk .gj tm hp nx df)) (fun i=>@Bool.rec (fun _=>Option Rs) (some (.mk (.ext i) tm hp nx df)) (some (.mk .gj tm hp nx df)) (Nat.beq i id)) (some (.mk .ret tm hp nx df))
noncomputable def D2(ih:cX)(a:Code)(fid sz:Nat)(tm:T V)(hp:T ah)(nx:Id)(df:V):Option Rs:=
 zE (ih a fid sz tm hp nx df) fun x tm hp nx df=>@Xt.casesOn (fun _=>Option Rs) x (ih (.loop a) fid sz tm hp nx df) (fun i=>some (.mk (.ext i) tm hp nx df)) (some (.mk .ret tm hp nx df))
noncomputable def xV(P:Program)(hf:Hk)(ih:cX)(ps:Array Tmp)(asg body:Code)(fid sz:Nat)(tm:T V)(hp:T ah)(nx:Id)(df:V)(g:FuncId)(fs cs:V):Option Rs:=
 db (some .df) nx hp fun hp=>AP (jv nx) fun l=>db (some (.lp .ready none fid tm sz ps asg body nx)) l hp fun hp=>AP (jv l) fun nx'=>
  fC (gU fs (.cons (.yl l) cs)) fun a=>iL P hf ih (iM P ih) g a hp nx' fun _ hp nx'=>CW l tm (.cons (.m nx) df) hp nx'
noncomputable def xW(P:Program)(hf:Hk)(ih:cX)(ps:Array Tmp)(asg body:Code)(fid sz:Nat)(tm:T V)(hp:T ah)(nx:Id)(df:V)(g:FuncId)(fs cs:V)(d:Id):Option Rs:=
 db (some (.lp .ready none fid tm sz ps asg body d)) nx hp fun hp=>AP (jv nx) fun nx'=>
  fC (gU fs (.cons (.yl nx) cs)) fun a=>iL P hf ih (iM P ih) g a hp nx' fun _ hp nx'=>CW nx tm df hp nx'
noncomputable def Hj(P:Program)(hf:Hk)(ih:cX)(f:Operand)(ps:Array Tmp)(asg body:Code)(fid sz:Nat)(tm:T V)(hp:T ah)(nx:Id)(df:V):Option Rs:=
 bO (eJ tm f) fun fv=>fv.CL (fun g fs cs=>df.split (xV P hf ih ps asg body fid sz tm hp nx df g fs cs) (fun _ _=>xV P hf ih ps asg body fid sz tm hp nx df g fs cs) (df.CL (fun _ _ _=>none) fun lb=>bO (get lb hp) fun bl=>bl.E9 fun _ _ _ _ _ _ _ _ d=>xW P hf ih ps asg body fid sz tm hp nx df g fs cs d)) fun _=>none
noncomputable def D3(_ _:Nat)(tm:T V)(hp:T ah)(nx:Id)(df:V):Option Rs:=some (.mk .gj tm hp nx df)
noncomputable def Hl(i:Nat)(_ _:Nat)(tm:T V)(hp:T ah)(nx:Id)(df:V):Option Rs:=some (.mk (.ext i) tm hp nx df)
noncomputable def Jd(_ _:Nat)(tm:T V)(hp:T ah)(nx:Id)(df:V):Option Rs:=some (.mk .ret tm hp nx df)
noncomputable def J3(_ _:Nat)(_:T V)(_:T ah)(_:Id)(_:V):Option Rs:=none
noncomputable def A7(P:Program)(gl:List V)(hf:Hk)(ih:cX):cX:=fun c=>
 @Code.casesOn (fun _=>Nat→Nat→ir) c D3 (Jc P gl hf ih) (Hi ih) (D1 ih) (A6 ih) (D2 ih) (Hj P hf ih) Hl ih (fun _=>D3) (fun _=>J3) Jd (fun _=>J3)
noncomputable def exec(P:Program)(gl:List V)(hf:Hk)(n:Nat):cX:=
 @Nat.rec (fun _=>cX) (fun _ _ _ _ _ _ _=>none) (fun _ ih=>A7 P gl hf ih) n
end Go.Cm
namespace Go.Cm
section
variable{P:Program} {E:Env} {w:World}
theorem jV{α:Type}{x:V}{f:FuncId→V→V→Option α}{g:Id→Option α}{y:α}(h:x.CL f g=some y):(∃n a b,x= .fn n a b∧f n a b=some y)∨(∃b,x= .yl b∧g b=some y):=by
 cases x<;>first|exact Or.inl ⟨_,_,_,rfl,h⟩|exact Or.inr ⟨_,rfl,h⟩|cases h
theorem lX{α:Type}{x:V}{f:TypeId→V→Option α}{n:Option α}{y:α}(h:x.CM f n=some y):(∃t v,x= .DC t v∧f t v=some y)∨(x= .ni∧n=some y):=by
 cases x<;>first|exact Or.inl ⟨_,_,rfl,h⟩|exact Or.inr ⟨rfl,h⟩|cases h
theorem aJ{tm:T V}{a:Act}{o:Operand}{x:V}(hT:RT E tm a.tmps)(h:eJ tm o=some x):RV E x (a.eval o):=by
 cases o with
 |
  tmp t=>
  obtain⟨u,h1,h2⟩:=hT _ _ (show get (aA t) tm=some x from h)
  rw[cq] at h1
  have:a.eval (.tmp t)=u:=by simp[Act.eval,h1]
  rw[this];exact h2
 |const v=>exact BJ (show cV v=some x from h)
 |global g=>cases h
 |
  func f=>
  cases h
  simp only[RV,Act.eval]
  exact⟨#[], #[],rfl,by simp[aD],by simp[aD]⟩
theorem dU{tm:T V}{a:Act}(hT:RT E tm a.tmps):∀{l:List Operand}{x:V},iK tm l=some x→aD E x (l.map a.eval)
 |[],x,h=>by cases h;simp[aD]
 |
  o::l,x,h=>by
  obtain⟨v,h1,h⟩:=aa (show(bO (eJ tm o) fun v=>bO (iK tm l) fun r=>some (.cons v r))=some x from h)
  obtain⟨r,h2,h⟩:=aa h
  cases h
  exact aD.aw.2 ⟨_,_,rfl,aJ hT h1,dU hT h2⟩
theorem sU{tm:T V}{a:Act}(hT:RT E tm a.tmps):∀{l:List (Nat×Operand)}{x:List (Nat×V)},CP tm l=some x→HM E x (l.map fun p=>(p.1,a.eval p.2))
 |[],x,h=>by cases h;rfl
 |
  o::l,x,h=>by
  obtain⟨v,h1,h⟩:=aa (show(bO (eJ tm o.2) fun v=>bO (CP tm l) fun r=>some ((o.1,v)::r))=some x from h)
  obtain⟨r,h2,h⟩:=aa h
  cases h
  exact⟨_,_,rfl,aJ hT h1,sU hT h2⟩
theorem sV{tm:T V}{a:Act}(hT:RT E tm a.tmps){o:Option Operand}{x:Option V}(h:CQ tm o=some x):RO E x (o.map a.eval):=by
 cases o with
 |none=>cases h;trivial
 |
  some o=>
  obtain⟨v,h1,h⟩:=aa (show(bO (eJ tm o) fun v=>some (some v))=some x from h)
  cases h
  exact aJ hT h1
theorem qG{x r:V}{v:Value}{o:Oper}{y:Operand}{ρ:Operand→Value}(ho:o.op= .nilCheck y)(hv:ρ y=v)(hx:RV E x v)(h:pR x=some r):(execOp ρ o).run P w= .ok (.value v) w∧r=x:=by
 unfold execOp
 rw[ho]
 simp only[hv]
 cases x<;>first
  |(cases h;done)
  |(cases h;simp only[RV] at hx;subst hx;exact⟨rfl,rfl⟩)
  |(cases h;simp only[RV] at hx;obtain⟨_,rfl⟩:=hx;exact⟨rfl,rfl⟩)
  |(cases h;simp only[RV] at hx;obtain⟨_,_,rfl⟩:=hx;exact⟨rfl,rfl⟩)
  |(cases h;simp only[RV] at hx;obtain⟨_,rfl,_⟩:=hx;exact⟨rfl,rfl⟩)
  |(cases h;simp only[RV] at hx;obtain⟨_,_,rfl,_⟩:=hx;exact⟨rfl,rfl⟩)
  |(cases h;simp only[RV] at hx;obtain⟨_,_,_,rfl,_⟩:=hx;exact⟨rfl,rfl⟩)
theorem sW{op:UnOp}{x r:V}{v:Value}(hx:RV E x v)(h:za op x=some r):∃u,(Op.unary op v).run P w= .ok u w∧RV E r u:=by
 cases op with
 |
  not=>
  obtain⟨b,rfl,h⟩:=cL h
  cases h
  simp only[RV] at hx
  subst hx
  exact⟨.bool !b,rfl,by simp only[RV,dC]⟩
 |
  neg=>
  obtain⟨k,n,rfl,h⟩:=aR h
  have:=ff h;subst this
  simp only[RV] at hx
  subst hx
  exact⟨.int k (k.wrap (0 -n)),by simp[Op.unary,Op.intArith],by simp only[RV];rw[fY];rfl⟩
 |_=>cases h
theorem uQ{t:TypeId}(h:cD (xN P t)=true):∃d,P.underlying t=some d∧∀m,d≠.interface m:=by
 unfold xN at h
 split at h
 ·cases h
 ·cases h
 ·rename_i o hn hno
  cases ho:P.underlying t with
  |none=>exact absurd ho hno
  |some d=>exact⟨d,rfl,fun m e=>hn m (by rw[ho,e])⟩
theorem wO{t:TypeId}{x r:V}{v:Value}(hx:RV E x v)(h:xO P t x=some r):(Instr.makeInterface t v).run P w= .ok (.iface t v) w∧RV E r (.iface t v):=by
 obtain⟨h1,h⟩:=af h
 cases h
 obtain⟨d,hd,hn⟩:=uQ h1
 refine⟨?_,by simp only[RV];exact⟨v,rfl,hx⟩⟩
 simp only[Instr.makeInterface,Sem.run_bind,au hd,Result.andThen_ok]
 cases d<;>first|rfl|exact absurd rfl (hn _)
theorem sX{ok:Bool}{v:V}{u:Value}{b:Bool}(h:RV E v u):RV E (AQ ok v b) (if ok then .tuple #[u,.bool b] else u):=by
 cases ok with
 |false=>exact h
 |
  true=>
  show RV E (.bJ _) _
  simp only[RV,if_true]
  exact⟨_,rfl,aD.aw.2 ⟨_,_,rfl,h,aD.aw.2 ⟨_,_,rfl,by simp only[RV],by simp[aD]⟩⟩⟩
theorem uR{xt t:TypeId}{ok:Bool}{x r:V}{v:Value}(hx:RV E x v)(h:uK P t ok x=some r):∃u,(Instr.typeAssert v xt t ok).run P w= .ok u w∧RV E r u:=by
 obtain⟨h1,h⟩:=af h
 obtain⟨d,hd,hn⟩:=uQ h1
 have fails:∀s dy m,(bd ok (bO (zeroV P t) fun z=>some (AQ true z false))=some r)→∃u,((do if ok then pure (.tuple #[←zeroValue t,.bool false]) else runtimePanic (.typeAssertion s dy t m)):Sem Value).run P w= .ok u w∧RV E r u:=by
  intro s dy m hf
  obtain⟨hok,hf⟩:=af hf
  obtain⟨z,hz,hf⟩:=aa hf
  cases hf
  obtain⟨u,z1,z2⟩:=iR (E:=E) (w:=w) hz
  subst hok
  exact⟨.tuple #[u,.bool false],by simp[z1],sX (ok:=true) z2⟩
 rcases lX h with⟨t',y,rfl,g2⟩|⟨rfl,g2⟩
 ·simp only[RV] at hx
  obtain⟨u,rfl,hu⟩:=hx
  cases hb:Nat.beq t' t with
  |
   true=>
   rw[hb] at g2
   cases(show some (AQ ok y true)=some r from g2)
   have:=bf hb;subst this
   refine⟨_,?_,sX hu⟩
   simp only[Instr.typeAssert,Sem.run_bind,au hd,Result.andThen_ok]
   cases d<;>first|(simp;done)|exact absurd rfl (hn _)
  |
   false=>
   rw[hb] at g2
   have hne:t'≠t:=fun e=>by subst e;simp at hb
   obtain⟨q,q1,q2⟩:=fails (some xt) (some t') "" g2
   refine⟨q,?_,q2⟩
   simp only[Instr.typeAssert,Sem.run_bind,au hd,Result.andThen_ok]
   cases d<;>first|(simp only[if_neg hne];exact q1)|exact absurd rfl (hn _)
 ·simp only[RV] at hx
  subst hx
  obtain⟨q,q1,q2⟩:=fails (some xt) none "" g2
  refine⟨q,?_,q2⟩
  simp only[Instr.typeAssert,Sem.run_bind,au hd,Result.andThen_ok]
  cases d<;>first|exact q1|exact absurd rfl (hn _)
theorem sY{x r:V}{i:Nat}{v:Value}(hx:RV E x v)(h:rD x i=some r):∃u,(Instr.extract v i).run P w= .ok u w∧RV E r u:=by
 obtain⟨l,rfl,h⟩:=ym h
 simp only[RV] at hx
 obtain⟨a,rfl,ha⟩:=hx
 obtain⟨u,h1,h2,_⟩:=tp ha h
 exact⟨u,by
  have:a[i]? =some u:=by simpa using h1
  simp[Instr.extract,this],h2⟩
theorem pD{ts:Array TypeId}{ty:TypeId}{xs r:V}{vs:List Value}(hx:aD E xs vs)(h:rr xs=some r):∃u,(Builtin.max_ ts ty vs.toArray).run P w= .ok u w∧RV E r u:=by
 obtain⟨a,l,rfl,g1⟩:=bn h
 obtain⟨k,n,rfl,g2⟩:=aR g1
 obtain⟨b,m,rfl,g3⟩:=bn g2
 obtain⟨k',n',rfl,g4⟩:=aR g3
 rcases bC g4 with⟨rfl,g5⟩|⟨_,_,_,g5⟩
 ·obtain⟨hk,g6⟩:=af g5
  cases g6
  have:=gI hk;subst this
  obtain⟨v,t,rfl,h1,h2⟩:=aD.aw.1 hx
  obtain⟨v',t',rfl,h3,h4⟩:=aD.aw.1 h2
  rw[aD.bL] at h4;subst h4
  simp only[RV] at h1 h3
  subst h1;subst h3
  refine⟨.int k (if n'>n then n' else n),by simp[Builtin.max_,Builtin.max2],?_⟩
  simp only[RV,tA]
  by_cases hc:n<n'
  ·simp[hc]
  ·simp[hc]
 ·cases g5
theorem pC{ts:Array TypeId}{ty:TypeId}{xs r:V}{vs:List Value}(hx:aD E xs vs)(h:rq xs=some r):∃u,(Builtin.min_ ts ty vs.toArray).run P w= .ok u w∧RV E r u:=by
 obtain⟨a,l,rfl,g1⟩:=bn h
 obtain⟨k,n,rfl,g2⟩:=aR g1
 obtain⟨b,m,rfl,g3⟩:=bn g2
 obtain⟨k',n',rfl,g4⟩:=aR g3
 rcases bC g4 with⟨rfl,g5⟩|⟨_,_,_,g5⟩
 ·obtain⟨hk,g6⟩:=af g5
  cases g6
  have:=gI hk;subst this
  obtain⟨v,t,rfl,h1,h2⟩:=aD.aw.1 hx
  obtain⟨v',t',rfl,h3,h4⟩:=aD.aw.1 h2
  rw[aD.bL] at h4;subst h4
  simp only[RV] at h1 h3
  subst h1;subst h3
  refine⟨.int k (if n'<n then n' else n),by simp[Builtin.min_,Builtin.min2],?_⟩
  simp only[RV,tA]
  by_cases hc:n'<n
  ·simp[hc]
  ·simp[hc]
 ·cases g5
end
end Go.Cm
namespace Go.Cm
section
variable{P:Program} {E:Env} {w:World}
theorem uS(w:World){e:TypeId}{cs:Array Value}:(newRow e cs).run P w= .ok ⟨w.heap.size,0,none⟩ (w.alloc (.cells cs e)):=by
 have:(newRow e cs).run P w= .ok ⟨w.heap.size,0,none⟩ {w with heap:=w.heap.push (.cells cs e)}:=by simp[newRow]
 exact this
theorem xX{e:TypeId}(h:CN P e=true):P.underlying e=some (.int .u8):=by
 unfold CN at h
 split at h
 ·assumption
 ·cases h
theorem pV:∀{l:V}{vs:List Value}{s:List Nat},aD E l vs→bytesOf l=some s→(∀x∈s,x<256)∧vs=s.map (fun n:Nat=>Value.int .u8 (Int.ofNat n)):=by
 intro l
 induction l with
 |
  nil=>
  intro vs s h k
  rw[aD.bL] at h;subst h
  cases(show some []=some s from k)
  exact⟨fun x hx=>(by cases hx),rfl⟩
 |
  cons a l _ ih=>
  intro vs s h k
  obtain⟨v,r,rfl,h1,h2⟩:=aD.aw.1 h
  obtain⟨kk,n,rfl,k1⟩:=aR (show(a.int fun k n=>bd (wa k .u8) (DH n fun n=>bd (Nat.ble n 255) (bO (bytesOf l) fun r=>some (n::r))))=some s from k)
  obtain⟨hk,k2⟩:=af k1
  obtain⟨m,rfl,k3⟩:=fZ k2
  obtain⟨hm,k4⟩:=af k3
  obtain⟨t,ht,k5⟩:=aa k4
  cases k5
  have:=gI hk;subst this
  obtain⟨i1,i2⟩:=ih h2 ht
  simp only[RV] at h1
  subst h1;subst i2
  have hm:=Nat.le_of_ble_eq_true hm
  refine⟨fun x hx=>?_,rfl⟩
  rcases List.mem_cons.1 hx with e|e
  ·omega
  ·exact i1 x e
 |_=>intro vs s h;simp[aD] at h
theorem uT:∀(s:List Nat)(r:ByteArray),(s.map fun n:Nat=>Int.ofNat n).foldl (fun r n=>r.push (UInt8.ofNat n.toNat)) r=r++dP s
 |[],r=>by apply ByteArray.ext;simp[dP]
 |
  n::s,r=>by
  simp only[List.map_cons,List.foldl_cons]
  rw[uT s]
  apply ByteArray.ext
  simp[dP,ByteArray.push]
theorem CX{α:Type}{hp:T ah}{hb:Id→Option ah}(hH:RH E hp w)(hB:∀b k,hb b=some k→get b hp=some k){x:V}{f:List Nat→Option α}{y:α}{vx:Value}(hx:RV E x vx)(h:uJ hb x f=some y):
 ∃s,f s=some y∧(∀x∈s,x<256)∧(Conv.bytesToString vx).run P w= .ok (.string (dP s)) w:=by
 have row:∀(b:Id)(o n cap g:Nat),E.g b=some g→(bO (hb b) fun k=>k.cells fun l=>bO (bW o n l) fun c=>bO (bytesOf c) f)=some y→
  ∃s,f s=some y∧(∀x∈s,x<256)∧(Conv.bytesToString (.slice (some ⟨g,o,none⟩) n cap)).run P w= .ok (.string (dP s)) w:=by
  intro b o n cap g hg h
  obtain⟨k,hk,h1⟩:=aa h
  obtain⟨l,e,hke,h2⟩:=bD h1
  obtain⟨c,hc,h3⟩:=aa h2
  obtain⟨s,hs,h4⟩:=aa h3
  obtain⟨g',ob,e1,e2,e3⟩:=hH.bp b k (hB b k hk)
  rw[hg] at e1;cases e1
  obtain⟨cs,fz,xs,ys,rfl,q1,q2,q3,q4,q5,_⟩:=RB.cells hke e3
  obtain⟨n1,n2,n3⟩:=gH q2 hc
  have hsz:o+n≤cs.size:=by
   have:=congrArg List.length q1
   simp at this;omega
  have he:(cs.toList.drop o).take n=(xs.drop o).take n:=by
   rw[q1,List.drop_append_of_le_length (by omega),List.take_append_of_le_length (by simp;omega)]
  obtain⟨i1,i2⟩:=pV n2 hs
  refine⟨s,h4,i1,?_⟩
  rw[run_bytesToString w ⟨g,o,none⟩ n cap (s.map fun n:Nat=>Int.ofNat n) (by
   rw[fD e2 hsz,he,i2];simp[Function.comp_def])]
  rw[uT]
  congr 3
 unfold uJ at h
 cases hse:x.qh with
 |
  true=>
  rw[hse] at h
  have:=kn hse;subst this
  simp only[RV] at hx
  obtain⟨a,c,rfl⟩:=hx
  refine⟨[],h,fun x hx=>(by cases hx),?_⟩
  rw[run_bytesToString w a 0 c [] (by simp[loadCells,loadCellsFrom])]
  rfl
 |
  false=>
  rw[hse] at h
  rcases cm h with⟨b,o,n,c,rfl,h⟩|⟨b,o,n,z,rfl,h⟩|⟨rfl,h⟩
  ·simp only[RV] at hx
   obtain⟨g,hg,rfl⟩:=hx
   exact row b o n c g hg h
  ·simp only[RV] at hx
   obtain⟨g,c,hg,rfl,_⟩:=hx
   exact row b o n c g hg h
  ·simp only[RV] at hx
   subst hx
   exact⟨[],h,fun x hx=>(by cases hx),rfl⟩
theorem zf{hp:T ah}{nx:Id}(hH:RH E hp w){b:Id}{k:ah}{l:V}{e:TypeId}(hk:get b hp=some k)(hke:k= .c l e∨k= .u l e){g o:Nat}(hg:E.g b=some g):
 ∃w',(markStringish ⟨g,o,none⟩).run P w= .ok () w'∧RH E (put (some k) b hp) w'∧Ex hp nx E w (put (some k) b hp) nx E w':=by
 obtain⟨g',ob,e1,e2,e3⟩:=hH.bp b k hk
 rw[hg] at e1;cases e1
 obtain⟨cs,fz,xs,ys,rfl,q1,q2,q3,q4,q5,q6⟩:=RB.cells hke e3
 obtain⟨fz',hfz',hth⟩:∃fz',fz'=(if fz.1==fz.2 then(cs.size,cs.size+1) else(min fz.1 cs.size,max fz.2 (cs.size+1)))∧vH cs.size fz':=by
  refine⟨_,rfl,?_⟩
  by_cases h:fz.1=fz.2
  ·rw[if_pos (by simpa using h)];exact Or.inr (Nat.le_refl _)
  ·rw[if_neg (by simpa using h)]
   rcases q4 with h'|h'
   ·exact absurd h' h
   ·exact Or.inr (by simp;omega)
 have hrun:(markStringish ⟨g,o,none⟩).run P w= .ok () (w.br g (.cells cs e fz')):=by
  have hsh:w.shape? g=some (e,cs.size):=by simp[World.shape?,e2]
  simp only[markStringish,Sem.run_bind,run_shape,hsh,Result.andThen_ok,run_freeze]
  congr 1
  simp only[World.freeze,World.br]
  rw[if_neg (by decide)]
  congr 1
  apply Array.ext_getElem?
  intro i
  rw[Array.getElem?_modify,Array.getElem?_setIfInBounds]
  have hlt:g<w.heap.size:=(Array.getElem?_eq_some_iff.1 e2).1
  split
  ·rename_i e';subst e'
   rw[e2,hfz']
   obtain⟨lo,hi⟩:=fz
   simp
  ·rfl
 have hrb:RB E b k (.cells cs e fz'):=by
  rcases hke with rfl|rfl
  ·have:=q6 rfl;subst this
   rw[List.append_nil] at q1
   exact⟨cs,fz',rfl,by rw[q1];exact q2,q3,hth,q5⟩
  ·exact⟨cs,fz',xs,ys,rfl,q1,q2,q3,hth,q5⟩
 obtain⟨s1,s2⟩:=hH.change (nx:=nx) (k:=k) hk hg (w.br g (.cells cs e fz')) rfl rfl (Tp.r rfl rfl) rfl hrb
 exact⟨_,hrun,s1,s2⟩
theorem nb{L:Nat}{hp:T ah}{nx:Id}{hb:Id→Option ah}(hH:RH E hp w)(hF:bG L nx E)(hB:∀b k,hb b=some k→get b hp=some k){src dst:TypeId}{x:V}{vx:Value}(hx:RV E x vx){ef:bx}(h:mX P hb nx src dst x=some ef):
 oz P L hp nx E w ef (convert src dst vx):=by
 obtain⟨s,hs,h1⟩:=aa h
 obtain⟨d,hd,h2⟩:=aa h1
 cases d with
 |
  int k=>
  obtain⟨k0,n,rfl,h3⟩:=aR h2
  obtain⟨r,hr,h4⟩:=aa h3
  cases h4
  have:=ff hr;subst this
  simp only[RV] at hx
  subst hx
  refine oz.same hH hF (v:=.int k (k.wrap n)) ?_ (by simp only[RV];rw[fY])
  simp only[convert,Sem.run_bind,au hs,au hd,Result.andThen_ok]
  rfl
 |
  string=>
  cases s with
  |
   slice e=>
   obtain⟨hu,h3⟩:=af h2
   obtain⟨l,h4,h5,h6⟩:=CX (P:=P) hH hB hx h3
   cases h4
   have he:=xX hu
   refine oz.same hH hF (v:=.string (dP l)) ?_ (by simp only[RV];exact⟨h5,trivial⟩)
   have hsl:∃a n c,vx= .slice a n c:=by
    unfold uJ at h3
    cases hse:x.qh with
    |
     true=>
     have:=kn hse;subst this
     simp only[RV] at hx
     obtain⟨a,c,rfl⟩:=hx
     exact⟨_,_,_,rfl⟩
    |
     false=>
     rw[hse] at h3
     rcases cm h3 with⟨b,o,n,c,rfl,_⟩|⟨b,o,n,z,rfl,_⟩|⟨rfl,_⟩
     ·simp only[RV] at hx;obtain⟨g,_,rfl⟩:=hx;exact⟨_,_,_,rfl⟩
     ·simp only[RV] at hx;obtain⟨g,c,_,rfl,_⟩:=hx;exact⟨_,_,_,rfl⟩
     ·simp only[RV] at hx;subst hx;exact⟨_,_,_,rfl⟩
   obtain⟨a,n,c,rfl⟩:=hsl
   cases a<;>simp only[convert,Sem.run_bind,au hs,au hd,au he,Result.andThen_ok]<;>exact h6
  |_=>cases h2
 |
  slice e=>
  obtain⟨hu,h3⟩:=af h2
  have he:=xX hu
  cases hsd:Nat.beq src dst with
  |
   true=>
   rw[hsd] at h3
   have hsd:=bf hsd
   subst hsd
   cases s with
   |
    slice e'=>
    have hee:e=e':=by rw[hs] at hd;cases hd;rfl
    subst hee
    have done:∀(b:Id)(o n c g:Nat),E.g b=some g→(bO (hb b) fun k=>k.cells fun _=>some (bx.ch x b k))=some ef→RV E x (.slice (some ⟨g,o,none⟩) n c)→oz P L hp nx E w ef (convert src src (.slice (some ⟨g,o,none⟩) n c)):=by
     intro b o n c g hg h4 hxv
     obtain⟨k,hk,h5⟩:=aa h4
     obtain⟨l,e2,hke,h6⟩:=bD h5
     cases h6
     intro hL
     obtain⟨w',r1,r2,r3⟩:=zf (P:=P) (nx:=nx) hH (hB b k hk) hke (o:=o) hg
     refine⟨.slice (some ⟨g,o,none⟩) n c,w',E,?_,hxv,r2,hF,r3⟩
     simp only[convert,Sem.run_bind,au hs,au he,Result.andThen_ok,beq_self_eq_true]
     simp[r1]
    rcases cm (show x.tq (fun b _ _ _=>bO (hb b) fun k=>k.cells fun _=>some (bx.ch x b k)) (fun b _ _ _=>bO (hb b) fun k=>k.cells fun _=>some (bx.ch x b k)) none=some ef from h3) with⟨b,o,n,c,hxe,h4⟩|⟨b,o,n,z,hxe,h4⟩|⟨_,h4⟩
    ·have hx':=hx
     rw[hxe] at hx'
     simp only[RV] at hx'
     obtain⟨g,hg,rfl⟩:=hx'
     exact done b o n c g hg h4 hx
    ·have hx':=hx
     rw[hxe] at hx'
     simp only[RV] at hx'
     obtain⟨g,c,hg,rfl,_⟩:=hx'
     exact done b o n c g hg h4 hx
    ·cases h4
   |_=>cases h3
  |
   false=>
   rw[hsd] at h3
   obtain⟨l,rfl,h4⟩:=cY (show(x.str fun s=>fN (kB s) fun n=>fC (kC s) fun c=>some (bx.nw (.su nx 0 n 1) (.u c e)))=some ef from h3)
   rw[ca,fJ,jZ] at h4
   cases h4
   simp only[RV] at hx
   obtain⟨hl,rfl⟩:=hx
   intro hL
   have hL:num (jv nx)≤L:=hL
   obtain⟨c1,c2⟩:=oE (E:=E) hl
   obtain⟨cap,hcap⟩:∃cap,cap=(Question.appendCap (dP l).size 0 e).cut (w.tape w.drawn (.appendCap (dP l).size 0 e)):=⟨_,rfl⟩
   have hge:l.length≤cap:=by rw[hcap,iS];simp[Question.cut]
   have hrow:aD E (kC l) ((dP l).data.map fun b=>Value.int .u8 (b.toNat:Int)).toList:=by
    have:((dP l).data.map fun b=>Value.int .u8 (b.toNat:Int)).toList=l.map fun b=>Value.int .u8 ((UInt8.ofNat b).toNat:Int):=by
     simp[dP,Function.comp_def]
    rw[this];exact c1
   obtain⟨cs,hcs⟩:∃cs:Array Value,cs=((dP l).data.map fun b=>Value.int .u8 (b.toNat:Int))++Array.replicate (cap -(dP l).size) (.int .u8 0):=⟨_,rfl⟩
   have hsz:cs.size=cap:=by rw[hcs,iS];simp[dP];omega
   obtain⟨E',hE'⟩:∃E':Env,E'=⟨fun b=>if b=nx then some w.heap.size else E.g b,fun b=>if b=nx then cap else E.n b⟩:=⟨_,rfl⟩
   rw[bg] at hL
   have hle:E.le E':=by
    intro b g hb
    have hne:b≠nx:=fun e'=>by subst e';rw[hF b (Nat.le_refl _) (by omega)] at hb;cases hb
    subst hE'
    exact⟨by simp only[if_neg hne];exact hb,by simp only[if_neg hne]⟩
   have hn:E'.n nx=cs.size:=by subst hE';simp[hsz]
   obtain⟨a1,a2,a3,a4,a5⟩:=hH.fresh hF (by omega) (k:=.u (kC l) e) (o:=.cells cs e (cs.size,cs.size+1)) (n:=cap) (w.drew.alloc (.cells cs e (cs.size,cs.size+1))) rfl rfl (Tp.s rfl rfl) rfl E' hE'
    ⟨cs,_,_,_,rfl,by rw[hcs,Array.toList_append],hrow.mono hle,c2,Or.inr (Nat.le_refl _),hn⟩
   refine⟨.slice (some ⟨w.heap.size,0,none⟩) (dP l).size cap,_,E',?_,?_,a1,a2,a3⟩
   ·have hne:¬src=dst:=fun e=>by subst e;simp at hsd
    have hrun:(Conv.stringToBytes e (dP l)).run P w= .ok (.slice (some ⟨w.heap.size,0,none⟩) (dP l).size cap) (w.drew.alloc (.cells cs e (cs.size,cs.size+1))):=by
     simp only[Conv.stringToBytes,Sem.run_bind,run_choose_drew,Question.forced,Bool.false_eq_true,if_false,Result.andThen_ok]
     rw[←hcap,←hcs]
     have hsh:(w.drew.alloc (.cells cs e)).shape? w.heap.size=some (e,cs.size):=by
      have:(w.drew.alloc (.cells cs e)).heap[w.heap.size]? =some (.cells cs e):=heap_alloc_new w.drew _
      unfold World.shape?
      rw[this]
     have hfr:(w.drew.alloc (.cells cs e)).freeze ⟨w.heap.size,cs.size,none⟩ 1=w.drew.alloc (.cells cs e (cs.size,cs.size+1)):=by
      simp only[World.freeze,World.alloc,World.drew]
      rw[if_neg (by decide)]
      congr 1
      apply Array.ext_getElem?
      intro i
      rw[Array.getElem?_modify,Array.getElem?_push,Array.getElem?_push]
      by_cases hi:i=w.heap.size
      ·subst hi;simp
      ·rw[if_neg hi,if_neg hi,if_neg (fun e=>hi e.symm)]
     have hnr:(newRow e cs).run P w.drew= .ok ⟨w.heap.size,0,none⟩ (w.drew.alloc (.cells cs e)):=by
      exact uS w.drew
     simp only[hnr,Result.andThen_ok,markStringish,Sem.run_bind,run_shape,hsh,run_freeze,hfr,Sem.run_pure]
    cases s<;>simp only[convert,Sem.run_bind,au hs,au hd,au he,Result.andThen_ok]<;>exact hrun
   ·show RV E' (.su nx 0 l.length 1) _
    simp only[RV]
    exact⟨_,cap,a5,by rw[iS],hge,by rw[hn,hsz];omega⟩
 |_=>cases h2
end
end Go.Cm
namespace Go.Cm
section
variable{P:Program} {E:Env} {w:World}
theorem xY{a b:List Nat}(ha:∀x∈a,x<256)(hb:∀x∈b,x<256):(dP a==dP b)=decide (a=b):=by
 have e1:(dP a==dP b)=((a.map UInt8.ofNat).toArray==(b.map UInt8.ofNat).toArray):=rfl
 rw[e1,Bool.eq_iff_iff]
 simp only[beq_iff_eq,decide_eq_true_eq]
 constructor
 ·intro h;exact oC ha hb (by simpa using congrArg Array.toList h)
 ·intro h;rw[h]
theorem A8{xs ys:List Value}:∀{l m:V},aD E l xs→aD E m ys→EW l m=some true→xs=ys∧∀v∈xs,∃k n,v= .int k n:=by
 intro l
 induction l generalizing xs ys with
 |
  nil=>
  intro m h1 h2 h
  rcases bC (show m.split (some true) (fun _ _=>none) none=some true from h) with⟨rfl,_⟩|⟨_,_,_,h⟩
  ·rw[aD.bL] at h1 h2;subst h1;subst h2;exact⟨rfl,fun v hv=>by cases hv⟩
  ·cases h
 |
  cons a l _ ih=>
  intro m h1 h2 h
  obtain⟨c,m',rfl,g1⟩:=bn (show m.split none (fun b' m'=>a.int fun k i=>b'.int fun k' j=>bd (wa k k') (@Bool.rec (fun _=>Option Bool) (some false) (EW l m') (tw i j))) none=some true from h)
  obtain⟨k,x,rfl,g2⟩:=aR g1
  obtain⟨k',y,rfl,g3⟩:=aR g2
  obtain⟨hk,g4⟩:=af g3
  have:=gI hk;subst this
  obtain⟨v,r,rfl,v1,v2⟩:=aD.aw.1 h1
  obtain⟨u,s,rfl,u1,u2⟩:=aD.aw.1 h2
  simp only[RV] at v1 u1
  subst v1;subst u1
  cases hq:tw x y with
  |false=>rw[hq] at g4;cases g4
  |
   true=>
   rw[hq] at g4
   obtain⟨i1,i2⟩:=ih v2 u2 (show EW l m'=some true from g4)
   rw[jz] at hq
   have hxy:x=y:=by simpa using hq
   subst hxy;subst i1
   refine⟨rfl,fun v hv=>?_⟩
   rcases List.mem_cons.1 hv with e|e
   ·exact⟨_,_,e⟩
   ·exact i2 v e
 |_=>intro m h1;simp[aD] at h1
theorem iu{n:Nat}:∀(l:List Value),(∀v∈l,∃k n,v= .int k n)→(l.zip l).all (fun(x,y)=>Instr.sameBits n x y)=true
 |[],_=>rfl
 |
  v::l,h=>by
  obtain⟨k,m,rfl⟩:=h v (List.mem_cons_self ..)
  simp only[List.zip_cons_cons,List.all_cons,Bool.and_eq_true]
  exact⟨by simp[Instr.sameBits],iu l (fun u hu=>h u (List.mem_cons_of_mem _ hu))⟩
theorem zg{t:TypeId}{x y:V}{vx vy:Value}(hx:RV E x vx)(hy:RV E y vy)(h:lk P t x y=some true):vx=vy∧Instr.sameBits 10000 vx vx=true:=by
 obtain⟨dd,hd,h_1⟩:=aa h
 cases dd with
 |
  int k0=>
  obtain⟨k,a,rfl,h_2⟩:=aR h_1
  obtain⟨k',c,rfl,h_3⟩:=aR h_2
  obtain⟨hk,h_4⟩:=af h_3
  have:=gI hk;subst this
  simp only[RV] at hx hy
  subst hx;subst hy
  have h_5:=Option.some.inj h_4
  rw[jz] at h_5
  have:a=c:=by simpa using h_5
  subst this
  exact⟨rfl,by simp[Instr.sameBits]⟩
 |
  string=>
  obtain⟨a,rfl,h_5⟩:=cY h_1
  obtain⟨c,rfl,h_6⟩:=cY h_5
  have h_7:=Option.some.inj h_6
  rw[nk] at h_7
  have:a=c:=by simpa using h_7
  subst this
  simp only[RV] at hx hy
  obtain⟨q1,rfl⟩:=hx
  obtain⟨_,rfl⟩:=hy
  refine⟨rfl,?_⟩
  show(dP a==dP a)=true
  rw[xY q1 q1];simp
 |
  bool=>
  obtain⟨a,rfl,h_7⟩:=cL h_1
  obtain⟨c,rfl,h_8⟩:=cL h_7
  simp only[RV] at hx hy
  subst hx;subst hy
  have:a=c:=by
   have:=Option.some.inj h_8
   cases a<;>cases c<;>first|rfl|cases this
  subst this
  exact⟨rfl,by simp[Instr.sameBits]⟩
 |
  array n e=>
  obtain⟨de,he,h_9⟩:=aa h_1
  cases de with
  |
   int k0=>
   obtain⟨i,hi,h_10⟩:=aa h_9
   obtain⟨h1,h_11⟩:=af h_10
   obtain⟨l,rfl,h_12⟩:=cu h_11
   obtain⟨m,rfl,h_13⟩:=cu h_12
   obtain⟨h2,h_14⟩:=af h_13
   simp only[RV] at hx hy
   obtain⟨a,rfl,x1,x2⟩:=hx
   obtain⟨c,rfl,y1,y2⟩:=hy
   obtain⟨q1,q2⟩:=A8 x1 y1 h_14
   have:a=c:=Array.ext' q1
   subst this
   refine⟨rfl,?_⟩
   show(a.size==a.size&&(a.toList.zip a.toList).all fun(x,y)=>Instr.sameBits 9999 x y)=true
   rw[iu _ q2];simp
  |_=>cases h_9
 |
  struct fs=>
  obtain⟨s,hs,h_9⟩:=aa h_1
  obtain⟨l,rfl,h_10⟩:=cu h_9
  obtain⟨m,rfl,h_11⟩:=cu h_10
  obtain⟨h2,h_12⟩:=af h_11
  simp only[RV] at hx hy
  obtain⟨a,rfl,x1,x2⟩:=hx
  obtain⟨c,rfl,y1,y2⟩:=hy
  have hp:=xJ x1 y1 h_12
  have:a=c:=Array.ext' (hp.same rfl)
  subst this
  refine⟨rfl,?_⟩
  show(a.size==a.size&&(a.toList.zip a.toList).all fun(x,y)=>Instr.sameBits 9999 x y)=true
  rw[iu _ hp.ints];simp
 |_=>cases h_1
theorem uU{em:Bool}(d:Nat):∀(n:Nat)(t:TypeId)(s:Nat)(v:Value)(xs:List Value),fk P n t=some s→KV P t v xs→xs.length=s→(Instr.checkKey em (d+n) t v).run P w= .ok () w:=by
 intro n
 induction n with
 |zero=>intro t s v xs h;cases h
 |
  succ n ih=>
  intro t s v xs h hx hl
  obtain⟨n',e,hh⟩:=pP h
  cases e
  obtain⟨d1,hd1,hx⟩:=hx
  rw[show d+(n+1)=d+n+1 from rfl,Instr.checkKey]
  simp only[Sem.run_bind,au hd1,Result.andThen_ok]
  rcases hh with⟨k,hd,rfl⟩|⟨fs,i,hd,h1,h2,h3,rfl⟩
  ·rw[hd1] at hd;cases hd
   rfl
  ·rw[hd1] at hd;cases hd
   rcases hx with⟨_,rfl⟩|⟨hx,_⟩
   rotate_left
   ·cases hx
   have key:∀(fs:List Field)(o e:Nat),sO (fk P n) fs o=some e→e≤xs.length→(forIn fs PUnit.unit fun f _=>do
    if f.name≠ "_" then
     Instr.checkKey em (d+n) f.type (←part f.type xs.toArray f.offset)
     pure (ForInStep.yield PUnit.unit)
    else pure (ForInStep.yield PUnit.unit):Sem PUnit).run P w= .ok () w:=by
    intro fs
    induction fs with
    |nil=>intro o e _ _;simp
    |
     cons f fs ihf=>
     intro o e h he
     obtain⟨h1,h2,m,h3,h4⟩:=mW h
     have hle:=sP h4
     obtain⟨v,p1,p2⟩:=xK (P:=P) (w:=w) (cs:=xs.toArray) (off:=o) h3 (by simp;omega)
     have p3:=ih f.type m v _ h3 p2 (by simp;omega)
     simp only[List.forIn_cons,if_pos h1,Sem.run_bind,h2,p1,Result.andThen_ok,p3,Sem.run_pure]
     exact ihf _ _ h4 he
   have:=key fs.toList 0 _ h2 (by omega)
   rw[Array.forIn_toList] at this
   simp only[Sem.run_bind,this,Result.andThen_ok,Sem.run_pure]
theorem dr{em:Bool}{t:TypeId}{x:V}{v:Value}{d:Nat}(hx:RV E x v)(h:lk P t x x=some true):(Instr.checkKey em (d+3) t v).run P w= .ok () w:=by
 obtain⟨dd,hd,h_1⟩:=aa h
 by_cases hst:∃fs,dd= .struct fs
 ·obtain⟨fs,rfl⟩:=hst
  obtain⟨s,hs,h_9⟩:=aa h_1
  obtain⟨l,rfl,h_10⟩:=cu h_9
  obtain⟨m,hm,h_11⟩:=cu h_10
  obtain⟨h2,h_12⟩:=af h_11
  simp only[RV] at hx
  obtain⟨a,rfl,x1,x2⟩:=hx
  have hlen:a.toList.length=s:=by have:=x1.len;rw[bf h2] at this;exact this.symm
  exact uU d 3 t s (.agg a) a.toList hs ⟨_,hd,Or.inl ⟨rfl,rfl⟩⟩ hlen
 rw[Instr.checkKey]
 simp only[Sem.run_bind,au hd,Result.andThen_ok]
 cases dd with
 |int k0=>rfl
 |string=>rfl
 |bool=>rfl
 |
  array n e=>
  obtain⟨de,he,h_9⟩:=aa h_1
  cases de with
  |
   int k0=>
   obtain⟨i,hi,h_10⟩:=aa h_9
   obtain⟨h1,h_11⟩:=af h_10
   obtain⟨l,rfl,h_12⟩:=cu h_11
   obtain⟨m,hm,h_13⟩:=cu h_12
   obtain⟨h2,h_14⟩:=af h_13
   simp only[RV] at hx
   obtain⟨a,rfl,x1,x2⟩:=hx
   have hlen:a.size=n:=by have:=x1.len;rw[bf h2] at this;simpa using this.symm
   have h1:=bf h1
   simp only[Std.Legacy.Range.forIn_eq_forIn_range',Std.Legacy.Range.size,Nat.sub_zero,Nat.add_one_sub_one,Nat.div_one]
   have key:∀(is:List Nat),(∀j∈is,j<n)→(forIn is PUnit.unit fun i _=>do
    Instr.checkKey em (d+2) e (←part e a (i*(←sizeOf e)))
    pure (ForInStep.yield PUnit.unit):Sem PUnit).run P w= .ok () w:=by
    intro is
    induction is with
    |nil=>intro _;simp
    |
     cons j is ihl=>
     intro hj
     have hjn:=hj j (by simp)
     have p1:(part e a (j*i.size)).run P w= .ok a[j] w:=by
      rw[h1]
      simp[part,c8 he,iv,hlen,hjn]
     have p2:(Instr.checkKey em (d+2) e a[j]).run P w= .ok () w:=by
      rw[Instr.checkKey]
      simp only[Sem.run_bind,au he,Result.andThen_ok]
      rfl
     simp only[List.forIn_cons,Sem.run_bind,aS hi,Result.andThen_ok,p1,p2,Sem.run_pure]
     exact ihl (fun j' hj'=>hj j' (by simp[hj']))
   have:=key (List.range' 0 n) (fun j hj=>by simp at hj;omega)
   simp only[Sem.run_bind,this,Result.andThen_ok,Sem.run_pure]
  |_=>cases h_9
 |struct fs=>exact absurd ⟨fs,rfl⟩ hst
 |_=>cases h_1
theorem wP{t:TypeId}{d:TypeDesc}(hd:P.underlying t=some d){x y:V}{vx vy:Value}{b:Bool}(hx:RV E x vx)(hy:RV E y vy)(h:lk P t x y=some b):Instr.sameNow d vx vy=some b∨Instr.sameNow d vx vy=none:=by
 obtain⟨dd,hd',h_1⟩:=aa h
 rw[hd] at hd';cases hd'
 cases d with
 |
  int k0=>
  obtain⟨k,a,rfl,h_2⟩:=aR h_1
  obtain⟨k',c,rfl,h_3⟩:=aR h_2
  obtain⟨hk,h_4⟩:=af h_3
  have:=gI hk;subst this
  cases h_4
  simp only[RV] at hx hy
  subst hx;subst hy
  left;simp[Instr.sameNow,jz]
 |
  string=>
  obtain⟨a,rfl,h_5⟩:=cY h_1
  obtain⟨c,rfl,h_6⟩:=cY h_5
  cases h_6
  simp only[RV] at hx hy
  obtain⟨h1,rfl⟩:=hx
  obtain⟨h2,rfl⟩:=hy
  left
  simp only[Instr.sameNow,nk]
  rw[xY h1 h2]
 |
  bool=>
  obtain⟨a,rfl,h_7⟩:=cL h_1
  obtain⟨c,rfl,h_8⟩:=cL h_7
  cases h_8
  simp only[RV] at hx hy
  subst hx;subst hy
  left
  cases a<;>cases c<;>rfl
 |_=>right;rfl
theorem ow{kt:TypeId}{d:TypeDesc}(hd:P.underlying kt=some d){k:V}{v:Value}(hk:RV E k v):∀{es:Es}{l:List MapEntry}{r:Option V},rS E es l→mY P kt k es=some r→
 (r=none→(∀i,(Instr.findAsking kt v l i).run P w= .ok none w)∧(∀i,Instr.findNow d v l i=some none∨Instr.findNow d v l i=none)∧∀x u ck es',RV E x u→kJ P kt k x ck es=some es'→rS E es' (l++[{key:=v,val:=u,born:=ck}]))∧
 (∀y,r=some y→∃j e,l[j]? =some e∧RV E y e.val∧e.key=v∧Instr.sameBits 10000 v v=true∧(∀i,(Instr.findAsking kt v l i).run P w= .ok (some (i+j,e.val)) w)∧(∀i,Instr.findNow d v l i=some (some (i+j,e.val))∨Instr.findNow d v l i=none)∧
  ∀x u ck es',RV E x u→kJ P kt k x ck es=some es'→rS E es' (l.modify j fun e=>{e with key:=v,val:=u}))
 |
  .nil,l,r,h,hf=>by
  have h:l= []:=h
  subst h
  cases(show some none=some r from hf)
  refine⟨fun _=>⟨fun i=>by simp[Instr.findAsking],fun i=>Or.inl rfl,fun x u ck es' hx hs=>?_⟩,fun y hy=>by cases hy⟩
  cases(show some (Es.cons k x ck .nil)=some es' from hs)
  exact⟨_,_,rfl,hk,hx,rfl,rfl⟩
 |
  .cons k' v' n es,l,r,⟨e,t,hl,h1,h2,h3,h4⟩,hf=>by
  subst hl
  obtain⟨b,hb,hf⟩:=aa (show(bO (lk P kt k k') fun b=>@Bool.rec (fun _=>Option (Option V)) (mY P kt k es) (some (some v')) b)=some r from hf)
  have heq:=sQ (P:=P) (w:=w) (d:=9997) hk h1 hb
  have hnow:=wP hd hk h1 hb
  cases b with
  |
   true=>
   cases(show some (some v')=some r from hf)
   obtain⟨s1,s2⟩:=zg hk h1 hb
   refine⟨fun h=>(by cases h),fun y hy=>?_⟩
   cases hy
   refine⟨0,e,rfl,h2,s1.symm,s2,fun i=>?_,fun i=>?_,fun x u ck es' hx hs=>?_⟩
   ·simp only[Instr.findAsking,Sem.run_bind,show(Op.equal kt v e.key).run P w= .ok true w from heq,Result.andThen_ok]
    simp
   ·simp only[Instr.findNow]
    rcases hnow with hn|hn<;>simp[hn]
   ·have hs:(bO (lk P kt k k') fun b=>@Bool.rec (fun _=>Option Es) (bO (kJ P kt k x ck es) fun r=>some (Es.cons k' v' n r)) (some (Es.cons k x n es)) b)=some es':=hs
    rw[hb] at hs
    cases(show some (Es.cons k x n es)=some es' from hs)
    exact⟨{e with key:=v,val:=u},t,by simp[List.modify],hk,hx,h3,h4⟩
  |
   false=>
   obtain⟨i1,i2⟩:=ow hd hk h4 (show mY P kt k es=some r from hf)
   have aq:∀x ck es',kJ P kt k x ck (.cons k' v' n es)=some es'→∃r,kJ P kt k x ck es=some r∧es'= .cons k' v' n r:=by
    intro x ck es' hs
    have hs:(bO (lk P kt k k') fun b=>@Bool.rec (fun _=>Option Es) (bO (kJ P kt k x ck es) fun r=>some (Es.cons k' v' n r)) (some (Es.cons k x n es)) b)=some es':=hs
    rw[hb] at hs
    obtain⟨r,hr,hs⟩:=aa (show(bO (kJ P kt k x ck es) fun r=>some (Es.cons k' v' n r))=some es' from hs)
    cases hs
    exact⟨r,hr,rfl⟩
   have hask:∀i,(Instr.findAsking kt v (e::t) i).run P w=(Instr.findAsking kt v t (i+1)).run P w:=by
    intro i
    simp only[Instr.findAsking,Sem.run_bind,show(Op.equal kt v e.key).run P w= .ok false w from heq,Result.andThen_ok]
    simp
   refine⟨fun hr=>?_,fun y hy=>?_⟩
   ·obtain⟨a1,a2,a3⟩:=i1 hr
    refine⟨fun i=>by rw[hask];exact a1 _,fun i=>?_,fun x u ck es' hx hs=>?_⟩
    ·simp only[Instr.findNow]
     rcases hnow with hn|hn<;>simp only[hn]
     ·exact a2 _
     ·exact Or.inr trivial
    ·obtain⟨r',hr',rfl⟩:=aq x ck es' hs
     exact⟨e,t++_,rfl,h1,h2,h3,a3 x u ck r' hx hr'⟩
   ·obtain⟨j,e',a1,a2,a3,a4,a5,a6,a7⟩:=i2 y hy
    refine⟨j+1,e',by simpa using a1,a2,a3,a4,fun i=>?_,fun i=>?_,fun x u ck es' hx hs=>?_⟩
    ·rw[hask,a5];congr 3;omega
    ·simp only[Instr.findNow]
     rcases hnow with hn|hn<;>simp only[hn]
     ·have:=a6 (i+1)
      rw[show i+1+j=i+(j+1) from by omega] at this
      exact this
     ·exact Or.inr trivial
    ·obtain⟨r',hr',rfl⟩:=aq x ck es' hs
     exact⟨e,t.modify j _,by simp[List.modify],h1,h2,h3,a7 x u ck r' hx hr'⟩
theorem fU{kt:TypeId}{d:TypeDesc}(hd:P.underlying kt=some d){v:Value}{l:List MapEntry}{q:Option (Nat×Value)}(h1:(Instr.findAsking kt v l 0).run P w= .ok q w)(h2:Instr.findNow d v l 0=some q∨Instr.findNow d v l 0=none):(Instr.findKey kt v l).run P w= .ok q w:=by
 simp only[Instr.findKey,Sem.run_bind,au hd,Result.andThen_ok]
 rcases h2 with h|h
 ·rw[h];rfl
 ·rw[h];exact h1
end
end Go.Cm
namespace Go.Cm
section
variable{P:Program} {E:Env} {w:World}
theorem fb{g ck:Nat}{l:Array MapEntry}(h:w.heap[g]? =some (.map l ck)):(getObj g).run P w= .ok (.map l ck) w:=by simp[getObj,Sem.run,h]
theorem lY{g ck:Nat}{l:Array MapEntry}(o:Obj)(h:w.heap[g]? =some (.map l ck)):(setObj g o).run P w= .ok () {w with heap:=w.heap.setIfInBounds g o}:=by simp[setObj,Sem.run,h]
theorem nc{hp:T ah}(hH:RH E hp w){b:Id}{es:Es}{ck:Nat}(hb:get b hp=some (.m es ck)){g:Nat}(hg:E.g b=some g):∃l:Array MapEntry,w.heap[g]? =some (.map l ck)∧rS E es l.toList:=by
 obtain⟨g',o,h1,h2,l,rfl,h3⟩:=hH.bp b _ hb
 rw[hg] at h1;cases h1
 exact⟨l,h2,h3⟩
theorem jR{hp:T ah}{hb:Id→Option ah}(hH:RH E hp w)(hB:∀b k,hb b=some k→get b hp=some k){t:TypeId}{x k r:V}{ok:Bool}{vx vk:Value}(hx:RV E x vx)(hk:RV E k vk)(h:iH P hb t x k ok=some r):
 ∃v,(Instr.lookup t vx vk ok).run P w= .ok v w∧RV E r v:=by
 obtain⟨d,hd,h1⟩:=aa h
 cases d with
 |
  map kt e=>
  obtain⟨kk,hkk,h2⟩:=aa h1
  obtain⟨hkt,h3⟩:=af h2
  subst hkt
  have hck:∀em,(Instr.checkKey em 10000 kt vk).run P w= .ok () w:=fun em=>dr (d:=9997) hk hkk
  obtain⟨dk,hdk,_⟩:=aa hkk
  have zero:(bO (zeroV P e) fun z=>some (AQ ok z false))=some r→∃z,(zeroValue e).run P w= .ok z w∧RV E r (if ok then .tuple #[z,.bool false] else z):=by
   intro hz
   obtain⟨z,hz1,hz2⟩:=aa hz
   cases hz2
   obtain⟨v,z1,z2⟩:=iR (E:=E) (w:=w) hz1
   exact⟨v,z1,sX z2⟩
  rcases jy h3 with⟨b,rfl,h4⟩|⟨rfl,h4⟩
  ·obtain⟨bl,hbl,h5⟩:=aa h4
   obtain⟨es,ck,rfl,h6⟩:=fE h5
   obtain⟨q,hq,h7⟩:=aa h6
   simp only[RV] at hx
   obtain⟨g,hg,rfl⟩:=hx
   obtain⟨l,hl,hre⟩:=nc hH (hB b _ hbl) hg
   obtain⟨f1,f2⟩:=ow (P:=P) (w:=w) hdk hk hre hq
   cases q with
   |
    none=>
    obtain⟨a1,a2,_⟩:=f1 rfl
    obtain⟨z,z1,z2⟩:=zero h7
    refine⟨_,?_,z2⟩
    simp only[Instr.lookup,Sem.run_bind,au hd,Result.andThen_ok,fb hl,Sem.run_pure,hck,fU hdk (a1 0) (a2 0),z1]
   |
    some y=>
    cases(show some (AQ ok y true)=some r from h7)
    obtain⟨j,e',b1,b2,b3,b4,b5,b6,_⟩:=f2 y rfl
    refine⟨_,?_,sX b2⟩
    simp only[Instr.lookup,Sem.run_bind,au hd,Result.andThen_ok,fb hl,Sem.run_pure,hck,fU hdk (b5 0) (b6 0)]
  ·simp only[RV] at hx
   subst hx
   obtain⟨z,z1,z2⟩:=zero h4
   refine⟨_,?_,z2⟩
   have hf:(Instr.findKey kt vk []).run P w= .ok none w:=by simp[Instr.findKey,au hdk,Instr.findNow]
   simp only[Instr.lookup,Sem.run_bind,au hd,Result.andThen_ok,Sem.run_pure,hck]
   simp only[hf,Result.andThen_ok,Sem.run_bind,z1,Sem.run_pure]
 |_=>cases h1
def Hm(P:Program)(L:Nat)(hp:T ah)(nx:Id)(E:Env)(w:World)(e:bx)(s:Sem Unit):Prop:=
 num (e.nx nx)≤L→∃w' E',s.run P w= .ok () w'∧RV E' e.val undef∧RH E' (e.hp nx hp) w'∧bG L (e.nx nx) E'∧Ex hp nx E w (e.hp nx hp) (e.nx nx) E' w'
theorem nM{L:Nat}{hp:T ah}{nx:Id}{hb:Id→Option ah}(hH:RH E hp w)(hF:bG L nx E)(hB:∀b k,hb b=some k→get b hp=some k){t:TypeId}{x k y:V}{vx vk vy:Value}(hx:RV E x vx)(hk:RV E k vk)(hy:RV E y vy){ef:bx}(h:uL P hb t x k y=some ef):
 Hm P L hp nx E w ef (Instr.mapUpdate t vx vk vy):=by
 obtain⟨d,hd,h1⟩:=aa h
 cases d with
 |
  map kt e=>
  obtain⟨kk,hkk,h2⟩:=aa h1
  obtain⟨hkt,h3⟩:=af h2
  subst hkt
  have hck:∀em,(Instr.checkKey em 10000 kt vk).run P w= .ok () w:=fun em=>dr (d:=9997) hk hkk
  obtain⟨dk,hdk,_⟩:=aa hkk
  rcases jy h3 with⟨b,rfl,h4⟩|⟨_,h4⟩
  ·obtain⟨bl,hbl,h5⟩:=aa h4
   obtain⟨es,ck,rfl,h6⟩:=fE h5
   obtain⟨q,hq,h7⟩:=aa h6
   obtain⟨es',hes',h8⟩:=aa h7
   simp only[RV] at hx
   obtain⟨g,hg,rfl⟩:=hx
   obtain⟨l,hl,hre⟩:=nc hH (hB b _ hbl) hg
   obtain⟨f1,f2⟩:=ow (P:=P) (w:=w) hdk hk hre hq
   intro hL
   cases q with
   |
    none=>
    obtain⟨a1,a2,a3⟩:=f1 rfl
    have h8:(fN (Nat.succ ck) fun ck'=>some (bx.ch .un b (.m es' ck')))=some ef:=h8
    rw[ca] at h8
    cases h8
    have hrb:RB E b (.m es' (ck+1)) (.map (l.push {key:=vk,val:=vy,born:=ck}) (ck+1)):=⟨_,rfl,by simpa using a3 y vy ck es' hy hes'⟩
    obtain⟨s1,s2⟩:=hH.change (nx:=nx) (k:=.m es' (ck+1)) (hB b _ hbl) hg {w with heap:=w.heap.setIfInBounds g (.map (l.push {key:=vk,val:=vy,born:=ck}) (ck+1))} rfl rfl (Tp.r rfl rfl) rfl hrb
    refine⟨_,E,?_,by simp[bx.val,RV],s1,hF,s2⟩
    simp only[Instr.mapUpdate,Sem.run_bind,au hd,Result.andThen_ok,fb hl,hck,fU hdk (a1 0) (a2 0),lY _ hl]
   |
    some z=>
    cases(show some (bx.ch .un b (.m es' ck))=some ef from h8)
    obtain⟨j,e',b1,b2,b3,b4,b5,b6,b7⟩:=f2 z rfl
    have hj:l[j]? =some e':=by simpa using b1
    have hrb:RB E b (.m es' ck) (.map (l.modify j fun e=>{e with key:=vk,val:=vy}) ck):=⟨_,rfl,by simpa using b7 y vy ck es' hy hes'⟩
    obtain⟨s1,s2⟩:=hH.change (nx:=nx) (k:=.m es' ck) (hB b _ hbl) hg {w with heap:=w.heap.setIfInBounds g (.map (l.modify j fun e=>{e with key:=vk,val:=vy}) ck)} rfl rfl (Tp.r rfl rfl) rfl hrb
    refine⟨_,E,?_,by simp[bx.val,RV],s1,hF,s2⟩
    have hkeep:(Instr.keyThatStays vk vk).run P w= .ok vk w:=by simp[Instr.keyThatStays,b4]
    simp only[Instr.mapUpdate,Sem.run_bind,au hd,Result.andThen_ok,fb hl,hck,fU hdk (b5 0) (b6 0),Nat.zero_add,hj,Option.map_some,Option.getD_some,b3,hkeep,lY _ hl]
  ·cases h4
 |_=>cases h1
theorem wQ{L:Nat}{hp:T ah}{nx:Id}(hH:RH E hp w)(hF:bG L nx E){t:TypeId}{r:Option V}{vr:Option Value}(hr:RO E r vr){ef:bx}(h:xP P nx t r=some ef):
 oz P L hp nx E w ef (Instr.makeMap t vr):=by
 have hef:ef= .nw (.m nx) (.m .nil 0)∧(∀x,r=some x→∃k n kt vt,x= .i k n∧P.underlying t=some (.map kt vt)):=by
  cases r with
  |none=>cases(show some (bx.nw (.m nx) (.m .nil 0))=some ef from h);exact⟨rfl,fun x hx=>by cases hx⟩
  |
   some x=>
   obtain⟨k,n,hxe,h1⟩:=aR (show(x.int fun _ _=>bO (P.underlying t) fun d=>match d with
    | .map _ _=>some (bx.nw (.m nx) (.m .nil 0))
    |_=>none)=some ef from h)
   obtain⟨d,hd,h2⟩:=aa h1
   cases d with
   |
    map kt vt=>
    cases h2
    exact⟨rfl,fun y hy=>by cases hy;exact⟨k,n,kt,vt,hxe,hd⟩⟩
   |_=>cases h2
 obtain⟨hef,hint⟩:=hef
 subst hef
 intro hL
 have hL:num (jv nx)≤L:=hL
 rw[bg] at hL
 obtain⟨E',hE'⟩:∃E':Env,E'=⟨fun b=>if b=nx then some w.heap.size else E.g b,fun b=>if b=nx then 0 else E.n b⟩:=⟨_,rfl⟩
 obtain⟨a1,a2,a3,a4,a5⟩:=hH.fresh hF (by omega) (k:=.m .nil 0) (o:=.map #[] 0) (n:=0) (w.alloc (.map #[] 0)) rfl rfl (Tp.r rfl rfl) rfl E' hE' ⟨#[],rfl,rfl⟩
 refine⟨.map (some w.heap.size),_,E',?_,by show RV E' (.m nx) _;simp only[RV];exact⟨_,a5,rfl⟩,a1,a2,a3⟩
 cases r with
 |
  none=>
  cases vr with
  |none=>simp[Instr.makeMap]
  |some v=>exact hr.elim
 |
  some x=>
  cases vr with
  |none=>exact hr.elim
  |
   some v=>
   obtain⟨k,n,kt,vt,rfl,ht⟩:=hint x rfl
   have hr:RV E (.i k n) v:=hr
   simp only[RV] at hr
   subst hr
   simp[Instr.makeMap,au ht,asInt,asIntOf]
theorem sZ{L:Nat}{hp:T ah}{nx:Id}(hH:RH E hp w)(hF:bG L nx E){t:TypeId}{x y:V}{vx vy:Value}(hx:RV E x vx)(hy:RV E y vy){ef:bx}(h:rC P nx t x y=some ef):
 oz P L hp nx E w ef (Instr.makeSlice t vx vy):=by
 obtain⟨d,hd,h1⟩:=aa h
 cases d with
 |
  slice e=>
  obtain⟨i,hi,h2⟩:=aa h1
  obtain⟨k1,n1,rfl,h3⟩:=aR h2
  obtain⟨l,rfl,h4⟩:=fZ h3
  obtain⟨k2,n2,rfl,h5⟩:=aR h4
  obtain⟨c,rfl,h6⟩:=fZ h5
  obtain⟨hlc,h7⟩:=af h6
  obtain⟨hc,h8⟩:=af h7
  obtain⟨hbt,h9⟩:=af h8
  obtain⟨r,hr,h10⟩:=aa h9
  rw[jZ] at h10
  cases h10
  simp only[RV] at hx hy
  subst hx;subst hy
  have hlc:=Nat.le_of_ble_eq_true hlc
  have hc:=Nat.le_of_ble_eq_true hc
  have hbt:=Nat.le_of_ble_eq_true hbt
  intro hL
  obtain⟨z,z1,z2,z3⟩:=yt (E:=E) hr w
  obtain⟨E',a1,a2,a3,a4,a5,a6,a7⟩:=kr (P:=P) hH hF hL e z2 z3
  refine⟨.slice (some ⟨w.heap.size,0,none⟩) l c,_,E',?_,by show RV E' (.sl nx 0 l c) _;simp only[RV];exact⟨_,a2,rfl⟩,a5,a6,a7⟩
  have hprod:i.bytes*c≤100000*1000000:=Nat.mul_le_mul hbt hc
  have hw:∀m:Nat,m≤1000000→IntKind.i64.wrap (m:Int)=(m:Int):=by
   intro m hm
   rw[←fY]
   have:IntKind.wrap .i64 (m:Int)=m:=by
    simp only[IntKind.wrap,IntKind.signed,IntKind.bits]
    first
     |omega
     |(simp;omega)
   rw[fY];exact this
  have e1:=hw l (by omega)
  have e2:=hw c hc
  have ncond:¬((decide ((c:Int)<0)||decide ((i.bytes:Int)*(c:Int)>2^48))||decide ((l:Int)<0)||decide ((l:Int)>(c:Int)))=true:=by
   simp only[Bool.or_eq_true,decide_eq_true_eq,not_or]
   refine⟨⟨⟨by omega,?_⟩,by omega⟩,by omega⟩
   have h0:((i.bytes*c:Nat):Int)≤((100000000000:Nat):Int):=Int.ofNat_le.2 hprod
   rw[Int.natCast_mul] at h0
   have h1:(2:Int)^48=281474976710656:=by decide
   rw[h1]
   omega
  have hroom:(askRoom (c*i.bytes)).run P w= .ok () w:=by
   unfold askRoom
   split
   ·rfl
   ·rfl
  simp only[Instr.makeSlice,Sem.run_bind,au hd,Result.andThen_ok,asInt,asIntOf,Sem.run_pure,iQ hi,Int.ofNat_eq_natCast,e1,e2,if_neg ncond,Int.toNat_natCast,hroom,aS hi]
  rcases z1 with⟨y1,y2⟩|⟨y1,v,y2,y3⟩
  ·subst y2
   simp only[if_pos y1,Sem.run_pure,Result.andThen_ok,Sem.run_bind,a1]
  ·subst y3
   simp only[if_neg y1,Sem.run_pure,Result.andThen_ok,Sem.run_bind,y2,a1]
 |_=>cases h1
end
end Go.Cm
namespace Go.Cm
section
variable{P:Program} {E:Env} {w:World}
theorem wR{L:Nat}{hp:T ah}{nx:Id}{hb:Id→Option ah}(hH:RH E hp w)(hF:bG L nx E)(hB:∀b k,hb b=some k→get b hp=some k){t:TypeId}{x:V}{vx:Value}(hx:RV E x vx){ef:bx}(h:xQ P hb nx t x=some ef):
 oz P L hp nx E w ef (Instr.range t vx):=by
 obtain⟨d,hd,h1⟩:=aa h
 cases d with
 |
  map kt vt=>
  have fin:∀(k:ah)(o:Obj)(v:Value),(∀E':Env,E.le E'→RB E' nx k o)→ef= .nw (.p nx 0) k→(Instr.range t v).run P w= .ok (.pointer (some ⟨w.heap.size,0,none⟩)) (w.alloc o)→oz P L hp nx E w ef (Instr.range t v):=by
   intro k o v hk he hrun hL
   subst he
   have hL:num (jv nx)≤L:=hL
   rw[bg] at hL
   obtain⟨E',hE'⟩:∃E':Env,E'=⟨fun b=>if b=nx then some w.heap.size else E.g b,fun b=>if b=nx then 0 else E.n b⟩:=⟨_,rfl⟩
   have hle:E.le E':=by
    intro b g hb
    have hne:b≠nx:=fun e'=>by subst e';rw[hF b (Nat.le_refl _) (by omega)] at hb;cases hb
    subst hE'
    exact⟨by simp only[if_neg hne];exact hb,by simp only[if_neg hne]⟩
   obtain⟨a1,a2,a3,a4,a5⟩:=hH.fresh hF (by omega) (k:=k) (o:=o) (n:=0) (w.alloc o) rfl rfl (Tp.r rfl rfl) rfl E' hE' (hk E' hle)
   exact⟨_,_,E',hrun,by show RV E' (.p nx 0) _;simp only[RV];exact⟨_,a5,rfl⟩,a1,a2,a3⟩
  rcases jy h1 with⟨b,rfl,h2⟩|⟨rfl,h2⟩
  ·obtain⟨bl,hbl,h3⟩:=aa h2
   obtain⟨es,ck,rfl,h4⟩:=fE h3
   simp only[RV] at hx
   obtain⟨g,hg,rfl⟩:=hx
   obtain⟨l,hl,hre⟩:=nc hH (hB b _ hbl) hg
   refine fin (.it (some b) ck [] ck) (.mapIter (some g) ck #[] ck) _ (fun E' hle=>⟨g,(hle b g hg).1,rfl⟩) (Option.some.inj h4).symm ?_
   simp[Instr.range,au hd,fb hl]
  ·simp only[RV] at hx
   subst hx
   refine fin (.it none 0 [] 0) (.mapIter none 0 #[] 0) _ (fun E' hle=>rfl) (Option.some.inj h2).symm ?_
   simp[Instr.range,au hd]
 |_=>cases h1
theorem A9{α:Type}{k:ah}{f:Option Id→Nat→List Nat→Nat→Option α}{y:α}(h:k.J1 f=some y):∃m a s l,k= .it m a s l∧f m a s l=some y:=by
 cases k<;>first|exact⟨_,_,_,_,rfl,h⟩|cases h
theorem xZ(n:Nat):∀l:List Nat,sR n l=decide (n∈l)
 |[]=>by simp[sR]
 |
  a::l=>by
  show@Bool.rec (fun _=>Bool) (sR n l) true (Nat.beq a n)=_
  rw[xZ n l,tx]
  by_cases h:a=n
  ·subst h;simp
  ·have h':¬n=a:=fun e=>h e.symm
   simp[h,h']
theorem rG{seen:List Nat}:∀{es:Es}{l:List MapEntry},rS E es l→rS E (mZ seen es) (l.filter fun e=> !seen.contains e.born)
 | .nil,l,h=>by have h:l= []:=h;subst h;rfl
 |
  .cons k v n es,l,⟨e,r,hl,h1,h2,h3,h4⟩=>by
  subst hl
  have ih:=rG (seen:=seen) h4
  show rS E (@Bool.rec (fun _=>Es) (.cons k v n (mZ seen es)) (mZ seen es) (sR n seen)) _
  rw[xZ]
  by_cases hm:n∈seen
  ·simp only[hm,decide_true]
   rw[List.filter_cons_of_neg (by simp[h3,hm])];exact ih
  ·simp only[hm,decide_false]
   rw[List.filter_cons_of_pos (by simp[h3,hm])]
   exact⟨e,_,rfl,h1,h2,h3,ih⟩
theorem uV{n:Nat}:∀{es:Es}{l:List MapEntry},rS E es l→xR n es=true→¬(l.all fun e=>decide (e.born≥n))=true
 | .nil,l,h,ho=>by cases ho
 |
  .cons k v b es,l,⟨e,r,hl,h1,h2,h3,h4⟩,ho=>by
  subst hl
  have ho:@Bool.rec (fun _=>Bool) (xR n es) true (Nat.ble (Nat.succ b) n)=true:=ho
  simp only[List.all_cons,Bool.and_eq_true,decide_eq_true_eq,not_and]
  intro hge
  cases hb:Nat.ble (Nat.succ b) n with
  |true=>have:=Nat.le_of_ble_eq_true hb;omega
  |false=>rw[hb] at ho;exact uV h4 ho
theorem zh{seen:List Nat}{last:Nat}{es:Es}{l:Array MapEntry}(hre:rS E es l.toList)(h:wM seen last es=true):¬((!seen.toArray.isEmpty&& !l.isEmpty&&l.all (·.born≥last))=true):=by
 cases seen with
 |nil=>simp
 |
  cons a s=>
  cases es with
  |
   nil=>
   have:l.toList= []:=hre
   have:l= #[]:=Array.ext' this
   subst this;simp
  |
   cons k v n es=>
   have:=uV hre (show xR last (.cons k v n es)=true from h)
   simp only[Bool.and_eq_true,not_and]
   intro _ hh
   apply this
   rw[←hh];simp
theorem zi{L:Nat}{hp:T ah}{nx:Id}{hb:Id→Option ah}(hH:RH E hp w)(hF:bG L nx E)(hB:∀b k,hb b=some k→get b hp=some k){x:V}{vx:Value}{str:Bool}{ty:TypeId}(hx:RV E x vx){ef:bx}(h:AR hb x str=some ef):
 oz P L hp nx E w ef (Instr.next vx str ty):=by
 obtain⟨hs,h1⟩:=af h
 have hs:str=false:=by cases str;rfl;cases hs
 subst hs
 obtain⟨b,o,rfl,h2⟩:=dQ h1
 obtain⟨ho,h3⟩:=af h2
 have ho:=bf ho
 subst ho
 obtain⟨bl,hbl,h4⟩:=aa h3
 obtain⟨m,since,seen,last,rfl,h5⟩:=A9 h4
 simp only[RV] at hx
 obtain⟨g,hg,rfl⟩:=hx
 obtain⟨g',ob,e1,e2,e3⟩:=hH.bp b _ (hB b _ hbl)
 rw[hg] at e1;cases e1
 have over:RV E (.bJ (.cons (.b false) .nil)) (.tuple #[.bool false]):=by
  simp only[RV]
  exact⟨_,rfl,aD.aw.2 ⟨_,_,rfl,by simp only[RV],by simp[aD]⟩⟩
 cases m with
 |
  none=>
  cases(show some (bx.v (.bJ (.cons (.b false) .nil)))=some ef from h5)
  have e3:ob= .mapIter none since seen.toArray last:=e3
  subst e3
  refine oz.same hH hF (v:=.tuple #[.bool false]) ?_ over
  simp[Instr.next,getObj,Sem.run,e2]
 |
  some mb=>
  obtain⟨gm,hgm,rfl⟩:=e3
  obtain⟨ml,hml,h6⟩:=aa (show(bO (hb mb) fun ml=>ml.tD fun es ck=>bd (wM seen last es) (
   @Es.casesOn (fun _=>Option bx) (mZ seen es) (some (.v (.bJ (.cons (.b false) .nil))))
    (fun k v n l=>@Es.casesOn (fun _=>Option bx) l (bd (Nat.ble (Nat.succ n) since) (some (.ch (.bJ (.cons (.b true) (.cons k (.cons v .nil)))) b (.it (some mb) since (seen++[n]) ck)))) (fun _ _ _ _=>none))))=some ef from h5)
  obtain⟨es,ck,rfl,h7⟩:=fE h6
  obtain⟨hok,h8⟩:=af h7
  obtain⟨l,hl,hre⟩:=nc hH (hB mb _ hml) hgm
  have hleft:=rG (seen:=seen) hre
  have hno:=zh hre hok
  have hgi:(getObj g).run P w= .ok (.mapIter (some gm) since seen.toArray last) w:=by simp[getObj,Sem.run,e2]
  have hfil:l.filter (fun e=> !seen.toArray.contains e.born)=(l.toList.filter fun e=> !seen.contains e.born).toArray:=by
   apply Array.ext'
   simp
  cases hq:mZ seen es with
  |
   nil=>
   rw[hq] at h8 hleft
   cases(show some (bx.v (.bJ (.cons (.b false) .nil)))=some ef from h8)
   have hnil:(l.toList.filter fun e=> !seen.contains e.born)= []:=hleft
   refine oz.same hH hF (v:=.tuple #[.bool false]) ?_ over
   simp only[Instr.next,Sem.run_bind,hgi,Result.andThen_ok,fb hl,if_neg hno]
   rw[hfil,hnil]
   simp[choose,Sem.run,Question.forced]
  |
   cons k v n es'=>
   rw[hq] at h8 hleft
   cases es' with
   |cons _ _ _ _=>cases h8
   |
    nil=>
    obtain⟨hn,h9⟩:=af (show bd (Nat.ble (Nat.succ n) since) (some (bx.ch (.bJ (.cons (.b true) (.cons k (.cons v .nil)))) b (.it (some mb) since (seen++[n]) ck)))=some ef from h8)
    cases h9
    have hn:=Nat.le_of_ble_eq_true hn
    obtain⟨e,r,hl1,q1,q2,q3,q4⟩:=hleft
    have q4:r= []:=q4
    subst q4
    intro hL
    have hrb:RB E b (.it (some mb) since (seen++[n]) ck) (.mapIter (some gm) since (seen.toArray.push e.born) ck):=⟨gm,hgm,by rw[q3];simp⟩
    obtain⟨s1,s2⟩:=hH.change (nx:=nx) (k:=.it (some mb) since (seen++[n]) ck) (hB b _ hbl) hg {w with heap:=w.heap.setIfInBounds g (.mapIter (some gm) since (seen.toArray.push e.born) ck)} rfl rfl (Tp.r rfl rfl) rfl hrb
    refine⟨.tuple #[.bool true,e.key,e.val],_,E,?_,?_,s1,hF,s2⟩
    ·have aq:∀o,(setObj g o).run P w= .ok () {w with heap:=w.heap.setIfInBounds g o}:=fun o=>by simp[setObj,Sem.run,e2]
     simp only[Instr.next,Sem.run_bind,hgi,Result.andThen_ok,fb hl,if_neg hno]
     rw[hfil,hl1]
     have hlt:e.born<since:=by omega
     have hge:¬since≤e.born:=by omega
     simp[hlt,hge,choose,Sem.run,Question.forced,aq]
    ·show RV E (.bJ _) _
     simp only[RV]
     exact⟨_,rfl,aD.aw.2 ⟨_,_,rfl,by simp only[RV],aD.aw.2 ⟨_,_,rfl,q1,aD.aw.2 ⟨_,_,rfl,q2,by simp[aD]⟩⟩⟩⟩
theorem CY{x:V}{v:Value}{n:Nat}(hx:RV E x v)(h:EZ x=some n):(Builtin.lenOf v).run P w= .ok n w∧∃a c,v= .slice a n c:=by
 unfold EZ at h
 cases hse:x.qh with
 |
  true=>
  rw[hse] at h
  cases(show some 0=some n from h)
  have:=kn hse;subst this
  simp only[RV] at hx
  obtain⟨a,c,rfl⟩:=hx
  exact⟨rfl,_,_,rfl⟩
 |
  false=>
  rw[hse] at h
  rcases cm h with⟨b,o,n',c,rfl,h1⟩|⟨b,o,n',z,rfl,h1⟩|⟨rfl,h1⟩
  ·cases h1;simp only[RV] at hx;obtain⟨g,_,rfl⟩:=hx;exact⟨rfl,_,_,rfl⟩
  ·cases h1;simp only[RV] at hx;obtain⟨g,c,_,rfl,_⟩:=hx;exact⟨rfl,_,_,rfl⟩
  ·cases h1;simp only[RV] at hx;subst hx;exact⟨rfl,_,_,rfl⟩
theorem CZ{hp:T ah}{hb:Id→Option ah}(hH:RH E hp w)(hB:∀b k,hb b=some k→get b hp=some k){x c:V}{v:Value}{m size:Nat}(hx:RV E x v)(h:E7 hb (Nat.mul m size) x=some c):
 ∃cs:Array Value,(Builtin.firstCells size m v).run P w= .ok cs w∧aD E c cs.toList∧c.bK=true:=by
 have row:∀(b:Id)(o g:Nat)(n cap:Nat),E.g b=some g→(bO (hb b) fun k=>k.cells fun l=>bW o (Nat.mul m size) l)=some c→
  ∃cs:Array Value,(Builtin.firstCells size m (.slice (some ⟨g,o,none⟩) n cap)).run P w= .ok cs w∧aD E c cs.toList∧c.bK=true:=by
  intro b o g n cap hg h
  obtain⟨k,hk,h1⟩:=aa h
  obtain⟨l,e,hke,h2⟩:=bD h1
  obtain⟨g',ob,e1,e2,e3⟩:=hH.bp b k (hB b k hk)
  rw[hg] at e1;cases e1
  obtain⟨cs,fz,xs,ys,rfl,q1,q2,q3,q4,q5,_⟩:=RB.cells hke e3
  obtain⟨n1,n2,n3⟩:=gH q2 h2
  have n1:o+m*size≤xs.length:=n1
  have hsz:o+m*size≤cs.size:=by
   have:=congrArg List.length q1
   simp at this;omega
  have he:(cs.toList.drop o).take (m*size)=(xs.drop o).take (m*size):=by
   rw[q1,List.drop_append_of_le_length (by omega),List.take_append_of_le_length (by simp;omega)]
  exact⟨_,fD e2 hsz,by simpa[he] using n2,n3 q3⟩
 unfold E7 at h
 cases hse:x.qh with
 |
  true=>
  rw[hse] at h
  obtain⟨hz,h1⟩:=af (show bd (Nat.beq (Nat.mul m size) 0) (some V.nil)=some c from h)
  cases h1
  have hz:m*size=0:=bf hz
  have:=kn hse;subst this
  simp only[RV] at hx
  obtain⟨a,c,rfl⟩:=hx
  exact⟨#[],by simp[Builtin.firstCells,hz,loadCells,loadCellsFrom],by simp[aD],rfl⟩
 |
  false=>
  rw[hse] at h
  rcases cm h with⟨b,o,n',c',rfl,h1⟩|⟨b,o,n',z,rfl,h1⟩|⟨rfl,h1⟩
  ·simp only[RV] at hx;obtain⟨g,hg,rfl⟩:=hx;exact row b o g _ _ hg h1
  ·simp only[RV] at hx;obtain⟨g,c',hg,rfl,_⟩:=hx;exact row b o g _ _ hg h1
  ·obtain⟨hz,h2⟩:=af h1
   cases h2
   simp only[RV] at hx;subst hx
   exact⟨#[],by simp[Builtin.firstCells],by simp[aD],rfl⟩
theorem mP{L:Nat}{hp:T ah}{nx:Id}{hb:Id→Option ah}(hH:RH E hp w)(hF:bG L nx E)(hB:∀b k,hb b=some k→get b hp=some k){t t2 ty:TypeId}{x y:V}{vx vy:Value}(hx:RV E x vx)(hy:RV E y vy){ef:bx}(h:mO P hb t x y=some ef):
 oz P L hp nx E w ef (Builtin.copy_ #[t,t2] ty #[vx,vy]):=by
 obtain⟨d,hd,h1⟩:=aa h
 cases d with
 |
  slice e=>
  obtain⟨i,hi,h2⟩:=aa h1
  obtain⟨n,hn,h3⟩:=aa h2
  obtain⟨hlen,_⟩:=CY (P:=P) (w:=w) hy hn
  have done:∀(b:Id)(o l cap g:Nat),E.g b=some g→lU hb i.size n y b o l=some ef→oz P L hp nx E w ef (Builtin.copy_ #[t,t2] ty #[.slice (some ⟨g,o,none⟩) l cap,vy]):=by
   intro b o l cap g hg h4
   unfold lU at h4
   rw[ca] at h4
   obtain⟨m,hm⟩:∃m,m=@Bool.rec (fun _=>Nat) l n (Nat.ble n l):=⟨_,rfl⟩
   rw[←hm] at h4
   have hmin:Nat.min n l=m:=by
    rw[hm,tz]
    by_cases hc:n≤l
    ·simp[hc]
    ·simp[hc,Nat.min_def]
   obtain⟨k,hk,h5⟩:=aa h4
   obtain⟨ol,e',hke,h6⟩:=bD h5
   obtain⟨c,hc,h7⟩:=aa h6
   obtain⟨l',hl',h8⟩:=aa h7
   cases h8
   obtain⟨src,s1,s2,s3⟩:=CZ (P:=P) (w:=w) hH hB hy hc
   obtain⟨g',ob,e1,e2,e3⟩:=hH.bp b k (hB b k hk)
   rw[hg] at e1;cases e1
   obtain⟨cs,fz,xs,ys,rfl,q1,q2,q3,q4,q5,q6⟩:=RB.cells hke e3
   obtain⟨n1,n2,n3⟩:=mg s2 q2 hl'
   have hsz:xs.length+ys.length=cs.size:=by have:=congrArg List.length q1;simp at this;omega
   obtain⟨cs',r1,r2⟩:=gJ (P:=P) (o:=o) (i:=0) e2 (vs:=src.toList) (by omega) q4 (s2.mh s3)
   have hlen':cs'.size=cs.size:=by
    have:=congrArg List.length r2
    simp at this n1;omega
   have hcs:cs'.toList=(xs.take o++src.toList++xs.drop (o+src.toList.length))++ys:=by
    rw[r2,q1]
    simp only[Nat.add_zero]
    rw[List.take_append_of_le_length (by omega),List.drop_append_of_le_length (by omega)]
    simp
   have hrb:RB E b (k.br l') (.cells cs' e' fz):=by
    rcases hke with rfl|rfl
    ·have:=q6 rfl;subst this
     rw[List.append_nil] at hcs
     exact⟨cs',fz,rfl,by rw[hcs];exact n2,n3 s3 q3,by rw[hlen'];exact q4,by rw[q5,hlen']⟩
    ·exact⟨cs',fz,_,ys,rfl,hcs,n2,n3 s3 q3,by rw[hlen'];exact q4,by rw[q5,hlen']⟩
   intro hL
   obtain⟨t1,t2⟩:=hH.change (nx:=nx) (k:=k.br l') (hB b k hk) hg (w.br g (.cells cs' e' fz)) rfl rfl (Tp.r rfl rfl) rfl hrb
   refine⟨goInt m,_,E,?_,by show RV E (.i .i64 (.ofNat m)) _;simp only[RV];rfl,t1,hF,t2⟩
   simp[Builtin.copy_,au hd,hlen,aS hi,hmin,s1,r1]
  rcases cm h3 with⟨b,o,l,c,rfl,h4⟩|⟨b,o,l,z,rfl,h4⟩|⟨_,h4⟩
  ·simp only[RV] at hx;obtain⟨g,hg,rfl⟩:=hx;exact done b o l c g hg h4
  ·simp only[RV] at hx;obtain⟨g,c,hg,rfl,_⟩:=hx;exact done b o l c g hg h4
  ·cases h4
 |_=>cases h1
end
end Go.Cm
namespace Go.Cm
section
variable{P:Program} {E:Env} {w:World}
theorem wS{L:Nat}{hp:T ah}{nx:Id}{hb:Id→Option ah}(hH:RH E hp w)(hF:bG L nx E)(hB:∀b k,hb b=some k→get b hp=some k){t:TypeId}{x k:V}{vx vk:Value}(hx:RV E x vx)(hk:RV E k vk){ef:bx}(h:xS P hb t x k=some ef):
 oz P L hp nx E w ef (Instr.mapEntry t vx vk):=by
 obtain⟨d,hd,h1⟩:=aa h
 cases d with
 |
  map kt e=>
  obtain⟨kk,hkk,h2⟩:=aa h1
  obtain⟨hkt,h3⟩:=af h2
  subst hkt
  have hck:∀em,(Instr.checkKey em 10000 kt vk).run P w= .ok () w:=fun em=>dr (d:=9997) hk hkk
  obtain⟨dk,hdk,_⟩:=aa hkk
  rcases jy h3 with⟨b,rfl,h4⟩|⟨_,h4⟩
  ·obtain⟨bl,hbl,h5⟩:=aa h4
   obtain⟨es,ck,rfl,h6⟩:=fE h5
   obtain⟨q,hq,h7⟩:=aa h6
   simp only[RV] at hx
   obtain⟨g,hg,rfl⟩:=hx
   obtain⟨l,hl,hre⟩:=nc hH (hB b _ hbl) hg
   obtain⟨f1,f2⟩:=ow (P:=P) (w:=w) hdk hk hre hq
   intro hL
   cases q with
   |
    none=>
    obtain⟨z,hz,h8⟩:=aa (show(bO (zeroV P e) fun z=>bO (kJ P kt k z ck es) fun es'=>fN (Nat.succ ck) fun ck'=>some (bx.ch (.bJ (.cons z (.cons (.i .i64 (Int.ofNat ck)) .nil))) b (.m es' ck')))=some ef from h7)
    obtain⟨es',hes',h9⟩:=aa h8
    rw[ca] at h9
    cases h9
    obtain⟨vz,z1,z2⟩:=iR (P:=P) (E:=E) (w:=w) hz
    obtain⟨a1,a2,a3⟩:=f1 rfl
    have hrb:RB E b (.m es' (ck+1)) (.map (l.push {key:=vk,val:=vz,born:=ck}) (ck+1)):=⟨_,rfl,by simpa using a3 z vz ck es' z2 hes'⟩
    obtain⟨s1,s2⟩:=hH.change (nx:=nx) (k:=.m es' (ck+1)) (hB b _ hbl) hg {w with heap:=w.heap.setIfInBounds g (.map (l.push {key:=vk,val:=vz,born:=ck}) (ck+1))} rfl rfl (Tp.r rfl rfl) rfl hrb
    refine⟨.tuple #[vz,goInt (ck:Int)],_,E,?_,⟨_,rfl,vz,_,rfl,z2,_,_,rfl,rfl,rfl⟩,s1,hF,s2⟩
    simp only[Instr.mapEntry,Sem.run_bind,au hd,Result.andThen_ok,fb hl,hck,fU hdk (a1 0) (a2 0),z1,lY _ hl,Sem.run_pure]
   |some y=>cases h7
  ·cases h4
 |_=>cases h1
theorem Ba{n:Nat}{y:V}{vy:Value}(hy:RV E y vy):∀{es:Es}{l:List MapEntry}{es':Es},rS E es l→xT n y es=some es'→
 ∃j,l.findIdx? (fun e=>(e.born:Int)==(n:Int))=some j∧rS E es' (l.modify j fun e=>{e with val:=vy})
 | .nil,_,_,_,h=>by cases h
 |
  .cons k v n' es,l,es',⟨e,r,h1,h2,h3,h4,h5⟩,h=>by
  subst h1
  have h:@Bool.rec (fun _=>Option Es) (bO (xT n y es) fun r=>some (.cons k v n' r)) (some (.cons k y n' es)) (Nat.beq n' n)=some es':=h
  cases hb:Nat.beq n' n with
  |
   true=>
   rw[hb] at h
   cases(show some (Es.cons k y n' es)=some es' from h)
   have hn:n'=n:=Nat.eq_of_beq_eq_true hb
   refine⟨0,?_,?_⟩
   ·rw[List.findIdx?_cons,if_pos (by rw[h4,hn];exact beq_self_eq_true _)]
   ·exact⟨_,_,rfl,h2,hy,h4,h5⟩
  |
   false=>
   rw[hb] at h
   obtain⟨es2,h6,h7⟩:=aa (show(bO (xT n y es) fun r=>some (Es.cons k v n' r))=some es' from h)
   cases h7
   obtain⟨j,j1,j2⟩:=Ba hy h5 h6
   refine⟨j+1,?_,?_⟩
   ·have hne:n'≠n:=fun e=>by rw[e] at hb;rw[show Nat.beq n n=true from Nat.beq_refl n] at hb;cases hb
    rw[List.findIdx?_cons,if_neg (by rw[h4];simp only[beq_iff_eq];omega),j1];rfl
   ·exact⟨_,_,rfl,h2,h3,h4,j2⟩
theorem Bb{L:Nat}{hp:T ah}{nx:Id}{hb:Id→Option ah}(hH:RH E hp w)(hF:bG L nx E)(hB:∀b k,hb b=some k→get b hp=some k){t:TypeId}{x s y:V}{vx vs vy:Value}(hx:RV E x vx)(hs:RV E s vs)(hy:RV E y vy){ef:bx}(h:DY hb x s y=some ef):
 Hm P L hp nx E w ef (Instr.entryStore t vx vs vy):=by
 rcases jy h with⟨b,rfl,h4⟩|⟨_,h4⟩
 ·obtain⟨bl,hbl,h5⟩:=aa h4
  obtain⟨es,ck,rfl,h6⟩:=fE h5
  obtain⟨k,n,rfl,h7⟩:=aR h6
  obtain⟨m,rfl,h8⟩:=fZ h7
  obtain⟨es',hes',h9⟩:=aa h8
  cases h9
  simp only[RV] at hx hs
  obtain⟨g,hg,rfl⟩:=hx
  subst hs
  obtain⟨l,hl,hre⟩:=nc hH (hB b _ hbl) hg
  obtain⟨j,j1,j2⟩:=Ba hy hre hes'
  intro hL
  have hrb:RB E b (.m es' ck) (.map (l.modify j fun e=>{e with val:=vy}) ck):=⟨_,rfl,by simpa using j2⟩
  obtain⟨s1,s2⟩:=hH.change (nx:=nx) (k:=.m es' ck) (hB b _ hbl) hg {w with heap:=w.heap.setIfInBounds g (.map (l.modify j fun e=>{e with val:=vy}) ck)} rfl rfl (Tp.r rfl rfl) rfl hrb
  refine⟨_,E,?_,by simp[bx.val,RV],s1,hF,s2⟩
  have hfi:l.findIdx? (fun e=>(e.born:Int)==Int.ofNat m)=some j:=by
   cases l with
   |mk l=>simpa using j1
  simp only[Instr.entryStore,Sem.run_bind,Result.andThen_ok,fb hl,asInt,asIntOf,Sem.run_pure,hfi,lY _ hl]
 ·cases h4
end
end Go.Cm
namespace Go.Cm
def GL(gl:List V)(hp:T ah)(E:Env)(w:World):Prop:=
 ∀g x,ei gl g=some x→¬Own hp E g∧∃l cs e fz,x= .agg l∧w.heap[g]? =some (.cells cs e fz)∧(∃xs ys,cs.toList=xs++ys∧∀E,aD E l xs)∧l.bK=true
theorem GL.step{gl:List V}{hp hp':T ah}{nx nx':Id}{E E':Env}{w w':World}(h:GL gl hp E w)(x:Ex hp nx E w hp' nx' E' w'):GL gl hp' E' w':=by
 intro g y hy
 obtain⟨h1,l,cs,e,fz,h2,h3,h4⟩:=h g y hy
 have hlt:g<w.heap.size:=(Array.getElem?_eq_some_iff.1 h3).1
 refine⟨fun ho=>?_,l,cs,e,fz,h2,?_,h4⟩
 ·rcases x.own g ho with h|h
  ·exact h1 h
  ·omega
 ·rw[x.kept g hlt h1];exact h3
def qH(P:Program)(L:Nat)(hp:T ah)(nx:Id)(E:Env)(w:World)(e:bx)(s:Sem Next):Prop:=
 num (e.nx nx)≤L→∃n v w' E',s.run P w= .ok n w'∧(n= .value v∨(n= .skip∧v=undef))∧RV E' e.val v∧RH E' (e.hp nx hp) w'∧bG L (e.nx nx) E'∧Ex hp nx E w (e.hp nx hp) (e.nx nx) E' w'
section
variable{P:Program} {E:Env} {w:World} {L:Nat} {hp:T ah} {nx:Id}
theorem oz.n{e:bx}{s:Sem Value}(h:oz P L hp nx E w e s):qH P L hp nx E w e (do pure (.value (←s))):=by
 intro hL
 obtain⟨v,w',E',h1,h2⟩:=h hL
 exact⟨.value v,v,w',E',by simp[h1],Or.inl rfl,h2⟩
theorem Hm.n{e:bx}{s:Sem Unit}(h:Hm P L hp nx E w e s):qH P L hp nx E w e (do s;pure .skip):=by
 intro hL
 obtain⟨w',E',h1,h2⟩:=h hL
 exact⟨.skip,undef,w',E',by simp[h1],Or.inr ⟨rfl,rfl⟩,h2⟩
theorem qH.same(hH:RH E hp w)(hF:bG L nx E){x:V}{s:Sem Next}{v:Value}(h1:s.run P w= .ok (.value v) w)(h2:RV E x v):qH P L hp nx E w (.v x) s:=
 fun _=>⟨.value v,v,w,E,h1,Or.inl rfl,h2,hH,hF,Ex.refl _ _ _ _⟩
theorem ic{x:Option V}{e:bx}(h:vE x=some e):∃v,x=some v∧e= .v v:=by
 obtain⟨v,h1,h2⟩:=aa h
 cases h2
 exact⟨v,h1,rfl⟩
theorem ya{gl:List V}{tm:T V}{a:Act}{hb:Id→Option ah}(hT:RT E tm a.tmps)(hH:RH E hp w)(hF:bG L nx E)(hB:∀b k,hb b=some k→get b hp=some k)(hG:GL gl hp E w){o:Oper}{f:CS}(hf:lq P gl o.op= .mk f){e:bx}(h:f tm hb nx=some e):
 qH P L hp nx E w e (execOp a.eval o):=by
 have val:∀{r:Option V}{s:Sem Value},vE r=some e→(∀x,r=some x→∃v,s.run P w= .ok v w∧RV E x v)→qH P L hp nx E w e (do pure (.value (←s))):=by
  intro r s h1 h2
  obtain⟨x,h3,rfl⟩:=ic h1
  obtain⟨v,h4,h5⟩:=h2 x h3
  exact(oz.same hH hF h4 h5).n
 cases hop:o.op<;>simp only[lq,hop] at hf
 case move x=>
  cases hf
  obtain⟨y,h1,rfl⟩:=ic h
  exact qH.same hH hF (by simp[execOp,hop]) (aJ hT h1)
 case assign x=>
  cases hf
  obtain⟨y,h1,rfl⟩:=ic h
  exact qH.same hH hF (by simp[execOp,hop]) (aJ hT h1)
 case pick c x y=>
  cases hf
  obtain⟨cv,h1,h2⟩:=aa h
  obtain⟨b,rfl,h3⟩:=cL h2
  have hc:=aJ hT h1
  simp only[RV] at hc
  cases b with
  |
   true=>
   obtain⟨z,h4,rfl⟩:=ic (show vE (eJ tm x)=some e from h3)
   exact qH.same hH hF (v:=a.eval x) (by simp[execOp,hop,asBool,hc]) (aJ hT h4)
  |
   false=>
   obtain⟨z,h4,rfl⟩:=ic (show vE (eJ tm y)=some e from h3)
   exact qH.same hH hF (v:=a.eval y) (by simp[execOp,hop,asBool,hc]) (aJ hT h4)
 case alloc t=>
  cases hf
  have:=(w7 (P:=P) hH hF h (.tuple #[])).n
  simpa only[execOp,hop] using this
 case box t x=>
  cases hf
  obtain⟨y,h1,h2⟩:=aa h
  have:=(BK (P:=P) hH hF (aJ hT h1) h2).n
  simpa only[execOp,hop] using this
 case build t ps=>
  cases hf
  obtain⟨y,h1,h2⟩:=aa h
  have hps:=sU hT h1
  have:=val h2 (fun x hx=>w8 (P:=P) (w:=w) (vs:=ps.map fun(i,x)=>(i,a.eval x)) (by simpa using hps) hx)
  simpa only[execOp,hop] using this
 case buildSlice t n ps=>
  cases hf
  obtain⟨y,h1,h2⟩:=aa h
  have hps:=sU hT h1
  have:=(nY (P:=P) (vs:=ps.map fun(i,x)=>(i,a.eval x)) hH hF (by simpa using hps) h2).n
  simpa only[execOp,hop] using this
 case load t x=>
  cases x with
  |
   global g=>
   cases hf
   obtain⟨y,h1,h2⟩:=aa h
   obtain⟨l,rfl,h3⟩:=cu h2
   obtain⟨d,hd,h4⟩:=aa h3
   obtain⟨hag,h5⟩:=af h4
   obtain⟨i,hi,h6⟩:=aa h5
   obtain⟨hsz,h7⟩:=af h6
   cases h7
   obtain⟨_,l',cs,e,fz,q1,q2,⟨xs,ys,q5,q3⟩,q4⟩:=hG g _ h1
   cases q1
   have hcs:xs.length=i.size:=by have:=(q3 E).len;rw[bf hsz] at this;exact this.symm
   have hle:i.size≤cs.size:=by
    have:=congrArg List.length q5
    simp at this;omega
   refine qH.same hH hF (v:=.agg xs.toArray) ?_ (by simp only[RV];exact⟨xs.toArray,rfl,by simpa using q3 E,q4⟩)
   have hl:=fD (P:=P) (w:=w) (o:=0) (n:=i.size) q2 (by omega)
   have hcut:((cs.toList.drop 0).take i.size).toArray=xs.toArray:=by
    rw[q5,←hcs];simp
   rw[hcut] at hl
   simp[execOp,hop,Act.eval,Instr.loadAt,Instr.sureAddr,loadVar,c8 hd,hag,aS hi,hl]
  |
   _=>
   cases hf
   obtain⟨y,h1,h2⟩:=aa h
   have:=val h2 (fun x hx=>gC (P:=P) (w:=w) hH hB (aJ hT h1) hx)
   simpa only[execOp,hop] using this
 case store t x y=>
  cases hf
  obtain⟨p,h1,h2⟩:=aa h
  obtain⟨v,h3,h4⟩:=aa h2
  obtain⟨r,h5,h6⟩:=aa h4
  cases h6
  have hU:Hm P L hp nx E w (.ch .un r.1 r.2) (Instr.storeAt t (a.eval x) (a.eval y)):=by
   intro hL
   obtain⟨w',s1,s2,s3⟩:=w6 (P:=P) (nx:=nx) hH hB (aJ hT h1) (aJ hT h3) (b:=r.1) (k':=r.2) h5
   exact⟨w',E,s1,by simp[bx.val,RV],s2,hF,s3⟩
  have:=hU.n
  simpa only[execOp,hop] using this
 case nilCheck x=>
  cases hf
  obtain⟨y,h1,h2⟩:=aa h
  obtain⟨z,h3,rfl⟩:=ic h2
  obtain⟨q1,q2⟩:=qG (P:=P) (w:=w) hop rfl (aJ hT h1) h3
  subst q2
  exact qH.same hH hF q1 (aJ hT h1)
 case binOp op t x y ty=>
  cases hf
  obtain⟨u,h1,h2⟩:=aa h
  obtain⟨v,h3,h4⟩:=aa h2
  obtain⟨z,h5,rfl⟩:=ic h4
  have hc:@Bool.rec (fun _=>Bool) (y6 y) true (y6 x)=true→y6 x=true∨y6 y=true:=by
   intro hh
   cases hx:y6 x with
   |true=>exact Or.inl rfl
   |false=>rw[hx] at hh;exact Or.inr hh
  obtain⟨g1,r,g2,g3⟩:=pQ (P:=P) (w:=w) (ox:=x) (oy:=y) hc (aJ hT h1) (aJ hT h3) h5
  exact qH.same hH hF (v:=r) (by simp[execOp,hop,g1,g2]) g3
 case unOp op t x=>
  cases hf
  obtain⟨u,h1,h2⟩:=aa h
  have:=val h2 (fun z hz=>sW (P:=P) (w:=w) (aJ hT h1) hz)
  simpa only[execOp,hop] using this
 case convert s d x=>
  cases hf
  obtain⟨u,h1,h2⟩:=aa h
  have:=(nb (P:=P) hH hF hB (aJ hT h1) h2).n
  simpa only[execOp,hop] using this
 case makeInterface t x=>
  cases hf
  obtain⟨u,h1,h2⟩:=aa h
  have:=val h2 (fun z hz=>⟨_,wO (P:=P) (w:=w) (aJ hT h1) hz⟩)
  simpa only[execOp,hop] using this
 case makeFunc fn fs cs=>
  cases fn with
  |
   func g=>
   cases hf
   obtain⟨u,h1,h2⟩:=aa h
   obtain⟨v,h3,h4⟩:=aa h2
   cases h4
   refine qH.same hH hF (v:=.func (.func g) (fs.map a.eval) (cs.map a.eval)) (by simp[execOp,hop,Instr.makeFunc]) ?_
   simp only[RV]
   exact⟨_,_,rfl,by simpa using dU hT h1,by simpa using dU hT h3⟩
  |_=>cases hf;cases h
 case makeMap t r=>
  cases hf
  obtain⟨u,h1,h2⟩:=aa h
  have:=(wQ (P:=P) hH hF (sV hT h1) h2).n
  simpa only[execOp,hop] using this
 case makeSlice t l c=>
  cases hf
  obtain⟨u,h1,h2⟩:=aa h
  obtain⟨v,h3,h4⟩:=aa h2
  have:=(sZ (P:=P) hH hF (aJ hT h1) (aJ hT h3) h4).n
  simpa only[execOp,hop] using this
 case slice t x lo hi mx=>
  cases mx with
  |
   none=>
   cases hf
   obtain⟨u,h1,h2⟩:=aa h
   obtain⟨v,h3,h4⟩:=aa h2
   obtain⟨z,h5,h6⟩:=aa h4
   have:=val h6 (fun y hy=>kY (P:=P) (w:=w) (aJ hT h1) (sV hT h3) (sV hT h5) hy)
   simpa only[execOp,hop,Option.map_none] using this
  |some m=>cases hf;cases h
 case fieldAddr t x i=>
  cases hf
  obtain⟨u,h1,h2⟩:=aa h
  have:=val h2 (fun z hz=>gM (P:=P) (w:=w) (aJ hT h1) hz)
  simpa only[execOp,hop] using this
 case field t x i=>
  cases hf
  obtain⟨u,h1,h2⟩:=aa h
  have:=val h2 (fun z hz=>w9 (P:=P) (w:=w) (aJ hT h1) hz)
  simpa only[execOp,hop] using this
 case indexAddr t x i=>
  cases hf
  obtain⟨u,h1,h2⟩:=aa h
  obtain⟨v,h3,h4⟩:=aa h2
  have:=val h4 (fun z hz=>gN (P:=P) (w:=w) (aJ hT h1) (aJ hT h3) hz)
  simpa only[execOp,hop] using this
 case index t x i=>
  cases hf
  obtain⟨u,h1,h2⟩:=aa h
  obtain⟨v,h3,h4⟩:=aa h2
  have:=val h4 (fun z hz=>ld (P:=P) (w:=w) (aJ hT h1) (aJ hT h3) hz)
  simpa only[execOp,hop] using this
 case lookup t x i ok=>
  cases hf
  obtain⟨u,h1,h2⟩:=aa h
  obtain⟨v,h3,h4⟩:=aa h2
  have:=val h4 (fun z hz=>jR (P:=P) (w:=w) hH hB (aJ hT h1) (aJ hT h3) hz)
  simpa only[execOp,hop] using this
 case mapUpdate t m k x=>
  cases hf
  obtain⟨u,h1,h2⟩:=aa h
  obtain⟨v,h3,h4⟩:=aa h2
  obtain⟨z,h5,h6⟩:=aa h4
  have:=(nM (P:=P) hH hF hB (aJ hT h1) (aJ hT h3) (aJ hT h5) h6).n
  simpa only[execOp,hop] using this
 case insert t m k x=>
  cases hf
  obtain⟨u,h1,h2⟩:=aa h
  obtain⟨v,h3,h4⟩:=aa h2
  obtain⟨z,h5,h6⟩:=aa h4
  have:=(nM (P:=P) hH hF hB (aJ hT h1) (aJ hT h3) (aJ hT h5) h6).n
  simpa only[execOp,hop] using this
 case mapEntry t m k=>
  cases hf
  obtain⟨u,h1,h2⟩:=aa h
  obtain⟨v,h3,h4⟩:=aa h2
  have:=(wS (P:=P) hH hF hB (aJ hT h1) (aJ hT h3) h4).n
  simpa only[execOp,hop] using this
 case entryStore t m s x=>
  cases hf
  obtain⟨u,h1,h2⟩:=aa h
  obtain⟨v,h3,h4⟩:=aa h2
  obtain⟨z,h5,h6⟩:=aa h4
  have:=(Bb (P:=P) (t:=t) hH hF hB (aJ hT h1) (aJ hT h3) (aJ hT h5) h6).n
  simpa only[execOp,hop] using this
 case range t x=>
  cases hf
  obtain⟨u,h1,h2⟩:=aa h
  have:=(wR (P:=P) hH hF hB (aJ hT h1) h2).n
  simpa only[execOp,hop] using this
 case next x s=>
  cases hf
  obtain⟨u,h1,h2⟩:=aa h
  have:=(zi (P:=P) (ty:=o.type) hH hF hB (aJ hT h1) h2).n
  simpa only[execOp,hop] using this
 case typeAssert x xt t ok=>
  cases hf
  obtain⟨u,h1,h2⟩:=aa h
  have:=val h2 (fun z hz=>uR (P:=P) (w:=w) (xt:=xt) (aJ hT h1) hz)
  simpa only[execOp,hop] using this
 case extract x i=>
  cases hf
  obtain⟨u,h1,h2⟩:=aa h
  have:=val h2 (fun z hz=>sY (P:=P) (w:=w) (aJ hT h1) hz)
  simpa only[execOp,hop] using this
 all_goals(cases hf;cases h)
end
end Go.Cm
namespace Go.Cm
section
variable{P:Program} {E:Env} {w:World} {L:Nat} {hp:T ah} {nx:Id}
theorem iN{α:Type}{l:V}{f:V→V→Option α}{y:α}(h:zd l f=some y):∃a r,l= .cons a r∧f a r=some y:=bn h
theorem Hn{α:Type}{l:List α}{a b:α}(h0:ei l 0=some a)(h1:ei l 1=some b):l[0]? =some a∧l[1]? =some b:=by
 rw[di] at h0 h1;exact⟨h0,h1⟩
theorem lZ{hb:Id→Option ah}(hH:RH E hp w)(hF:bG L nx E)(hB:∀b k,hb b=some k→get b hp=some k){b:Builtin}{ts:Array TypeId}{ty:TypeId}{cs:Array Bool}{x:V}{vs:Array Value}(hx:aD E x vs.toList){e:bx}(h:fy P hb nx b ts.toList x=some e):
 qH P L hp nx E w e (builtin b ts ty cs vs):=by
 have val:∀{r:Option V}{s:Sem Value},vE r=some e→(∀x,r=some x→∃v,s.run P w= .ok v w∧RV E x v)→qH P L hp nx E w e (do pure (.value (←s))):=by
  intro r s h1 h2
  obtain⟨x,h3,rfl⟩:=ic h1
  obtain⟨v,h4,h5⟩:=h2 x h3
  exact(oz.same hH hF h4 h5).n
 obtain⟨vs⟩:=vs
 obtain⟨ts⟩:=ts
 simp only at hx h
 cases b<;>simp only[fy] at h<;>first|(cases h;done)|skip
 ·
  obtain⟨s,r,rfl,h1⟩:=iN h
  obtain⟨y,r',rfl,h2⟩:=iN h1
  obtain⟨t,ht,h3⟩:=aa h2
  obtain⟨t2,ht2,h4⟩:=aa h3
  obtain⟨q1,q2⟩:=Hn ht ht2
  obtain⟨v,vr,rfl,v1,v2⟩:=aD.aw.1 hx
  obtain⟨u,ur,rfl,u1,u2⟩:=aD.aw.1 v2
  have:=(jN (P:=P) (ty:=ty) hH hF hB v1 u1 h4).n
  have he:Builtin.append_ ⟨ts⟩ ty ⟨v::u::ur⟩=Builtin.append_ #[t,t2] ty #[v,u]:=by
   unfold Builtin.append_
   simp[q1,q2]
  show qH P L hp nx E w e (do pure (.value (←Builtin.append_ ⟨ts⟩ ty ⟨v::u::ur⟩)))
  rw[he];exact this
 ·
  obtain⟨s,r,rfl,h1⟩:=iN h
  obtain⟨y,r',rfl,h2⟩:=iN h1
  obtain⟨t,ht,h3⟩:=aa h2
  rw[di] at ht
  obtain⟨v,vr,rfl,v1,v2⟩:=aD.aw.1 hx
  obtain⟨u,ur,rfl,u1,u2⟩:=aD.aw.1 v2
  have:=(mP (P:=P) (ty:=ty) (t2:=t) hH hF hB v1 u1 h3).n
  have he:Builtin.copy_ ⟨ts⟩ ty ⟨v::u::ur⟩=Builtin.copy_ #[t,t] ty #[v,u]:=by
   unfold Builtin.copy_
   simp[ht]
  show qH P L hp nx E w e (do pure (.value (←Builtin.copy_ ⟨ts⟩ ty ⟨v::u::ur⟩)))
  rw[he];exact this
 ·
  obtain⟨s,r,rfl,h1⟩:=iN h
  obtain⟨t,ht,h2⟩:=aa h1
  rw[di] at ht
  obtain⟨v,vr,rfl,v1,v2⟩:=aD.aw.1 hx
  have:=val h2 (fun z hz=>qk (P:=P) (w:=w) (ty:=ty) hH hB v1 hz)
  have he:Builtin.len_ ⟨ts⟩ ty ⟨v::vr⟩=Builtin.len_ #[t] ty #[v]:=by
   unfold Builtin.len_
   simp[ht]
  show qH P L hp nx E w e (do pure (.value (←Builtin.len_ ⟨ts⟩ ty ⟨v::vr⟩)))
  rw[he];exact this
 ·
  exact val h (fun z hz=>pD (P:=P) (w:=w) hx hz)
 ·
  exact val h (fun z hz=>pC (P:=P) (w:=w) hx hz)
theorem Bc{tm:T V}{a:Array Value}(h:RT E tm a){t:Nat}{x:V}{v:Value}(hx:RV E x v)(ht:t<a.size):RT E (put (some x) (aA t) tm) (a.setIfInBounds t v):=by
 intro p y hp
 rw[bH] at hp
 split at hp
 ·rename_i e;subst e;cases hp
  exact⟨v,by rw[cq];simp[ht],hx⟩
 ·rename_i hne
  obtain⟨u,h1,h2⟩:=h p y hp
  refine⟨u,?_,h2⟩
  rw[Array.getElem?_setIfInBounds,if_neg (fun e=>hne (ma (by rw[cq];exact e.symm)))]
  exact h1
theorem C0{tm:T V}{a:Array Value}(h:RT E tm a){t:Nat}{v:Value}:RT E (put none (aA t) tm) (a.setIfInBounds t v):=by
 intro p y hp
 rw[bH] at hp
 split at hp
 ·cases hp
 ·rename_i hne
  obtain⟨u,h1,h2⟩:=h p y hp
  refine⟨u,?_,h2⟩
  rw[Array.getElem?_setIfInBounds,if_neg (fun e=>hne (ma (by rw[cq];exact e.symm)))]
  exact h1
noncomputable def zG(d:Option Tmp)(v:Option V)(tm:T V):T V:=@Option.rec Tmp (fun _=>T V) tm (fun t=>put v (aA t) tm) d
theorem dV{β:Type}(d:Option Tmp)(v:Option V)(tm:T V)(k:T V→β):gu d v tm k=k (zG d v tm):=by
 cases d with
 |none=>rfl
 |some t=>exact bR v (aA t) tm k
def J4(d:Option Tmp)(n:Nat):Prop:=∀t,d=some t→t<n
theorem oA{tm:T V}{a:Act}(h:RT E tm a.tmps){d:Option Tmp}{x:V}{v:Value}(hx:RV E x v)(hd:J4 d a.tmps.size):RT E (zG d (some x) tm) (a.put d v).tmps:=by
 cases d with
 |none=>exact h
 |some t=>exact Bc h hx (hd t rfl)
theorem Bd{tm:T V}{a:Act}(h:RT E tm a.tmps){d:Option Tmp}{v:Value}:RT E (zG d none tm) (a.put d v).tmps:=by
 cases d with
 |none=>exact h
 |some t=>exact C0 h
theorem kj{e:bx}{d:Option Tmp}{tm:T V}{df:V}{k:ir}{R:Rs}(h:m8 e d tm hp nx df k=some R):k (zG d (some e.val) tm) (e.hp nx hp) (e.nx nx) df=some R:=by
 cases e with
 |v x=>rw[show m8 (.v x) d tm hp nx df k=gu d (some x) tm fun tm=>k tm hp nx df from rfl,dV] at h;exact h
 |
  nw x b=>
  rw[show m8 (.nw x b) d tm hp nx df k=gu d (some x) tm fun tm=>db (some b) nx hp fun hp=>AP (jv nx) fun nx=>k tm hp nx df from rfl,dV,bR,ll] at h
  exact h
 |
  ch x b bl=>
  rw[show m8 (.ch x b bl) d tm hp nx df k=gu d (some x) tm fun tm=>db (some bl) b hp fun hp=>k tm hp nx df from rfl,dV,bR] at h
  exact h
 |
  mv x b bl=>
  rw[show m8 (.mv x b bl) d tm hp nx df k=gu d (some x) tm fun tm=>db none b hp fun hp=>db (some bl) nx hp fun hp=>AP (jv nx) fun nx=>k tm hp nx df from rfl,dV,bR,bR,ll] at h
  exact h
end
end Go.Cm
namespace Go.Cm
abbrev Fr(r:Option Nat):Fence:={fn:=fun _=>True,depth:=none,alive:=false,round:=r}
structure Ok(gl:List V)(L sz:Nat)(tm:T V)(hp:T ah)(nx:Id)(E:Env)(a:Act)(w:World):Prop where
 vt:RT E tm a.tmps
 vs:sz≤a.tmps.size
 vh:RH E hp w
 vf:bG L nx E
 vg:GL gl hp E w
def RF(r:Option Nat)(E:Env)(df:V)(ds:List Deferred):Prop:=
 (r=none∧RD E df ds)∨∃b l,df= .yl b∧r=some l∧E.g b=some l∧ds= []
theorem RF.mono{r:Option Nat}{E E':Env}(h:E.le E'){df:V}{ds:List Deferred}(k:RF r E df ds):RF r E' df ds:=by
 rcases k with⟨h1,h2⟩|⟨b,l,h1,h2,h3,h4⟩
 ·exact Or.inl ⟨h1,h2.mono h⟩
 ·exact Or.inr ⟨b,l,h1,h2,(h b l h3).1,h4⟩
def pW:Xt→Exit
 | .gj=>.normal
 | .ext i=>.exit i
 | .ret=>.ret
def dM(P:Program)(gl:List V)(c:Code)(sz:Nat)(tm:T V)(hp:T ah)(nx:Id)(df:V)(x:Xt)(tm':T V)(hp':T ah)(nx':Id)(df':V):Prop:=
 num nx≤num nx'∧∀(r:Option Nat)(L:Nat)(E:Env)(a:Act)(w:World),num nx'≤L→Ok gl L sz tm hp nx E a w→RF r E df a.defers→∀Q:Exit→Act→World→Prop,
  (∀E' a' w',Ok gl L sz tm' hp' nx' E' a' w'→RF r E' df' a'.defers→Ex hp nx E w hp' nx' E' w'→Q (pW x) a' w')→c.wpIn (Fr r) 0 P Q a w
def qI(P:Program)(gl:List V)(ex:cX):Prop:=
 ∀c fid sz tm hp nx df x tm' hp' nx' df',ex c fid sz tm hp nx df=some (.mk x tm' hp' nx' df')→dM P gl c sz tm hp nx df x tm' hp' nx' df'
def jo(P:Program)(gl:List V)(o:Oper)(sz:Nat)(tm:T V)(hp:T ah)(nx:Id)(df:V)(tm':T V)(hp':T ah)(nx':Id)(df':V):Prop:=
 num nx≤num nx'∧∀(r:Option Nat)(L:Nat)(E:Env)(a:Act)(w:World),num nx'≤L→Ok gl L sz tm hp nx E a w→RF r E df a.defers→∀(K:Act→World→Prop)(Q:Exit→Act→World→Prop),
  (∀E' a' w',Ok gl L sz tm' hp' nx' E' a' w'→RF r E' df' a'.defers→Ex hp nx E w hp' nx' E' w'→K a' w')→o.wpIn (Fr r) 0 P a w K Q
section
variable{P:Program} {gl:List V}
theorem s0(e:bx)(nx:Id):num nx≤num (e.nx nx):=by
 cases e<;>simp only[bx.nx]<;>first|exact Nat.le_refl _|(rw[bg];omega)
theorem fV(a:Act)(d:Option Tmp)(v:Value):(a.put d v).tmps.size=a.tmps.size:=by
 cases d<;>simp[Act.put]
theorem put_defers(a:Act)(d:Option Tmp)(v:Value):(a.put d v).defers=a.defers:=by
 cases d<;>simp[Act.put]
theorem s9{sz:Nat}{d:Option Tmp}(h:lr sz d=true){n:Nat}(hn:sz≤n):J4 d n:=by
 intro t ht
 subst ht
 have:Nat.succ t≤sz:=Nat.le_of_ble_eq_true h
 exact Nat.lt_of_lt_of_le this hn
theorem Ok.J5{L sz:Nat}{tm:T V}{hp hp':T ah}{nx nx':Id}{E E':Env}{a:Act}{w w':World}(h:Ok gl L sz tm hp nx E a w)(hL:num nx'≤L){d:Option Tmp}(hd:lr sz d=true){x:V}{v:Value}(hx:RV E' x v)(hH:RH E' hp' w')(hF:bG L nx' E')(hX:Ex hp nx E w hp' nx' E' w'):
 Ok gl L sz (zG d (some x) tm) hp' nx' E' (a.put d v) w':=
 ⟨oA (h.vt.mono (hX.le h.vf hL)) hx (s9 hd h.vs),by rw[fV];exact h.vs,hH,hF,h.vg.step hX⟩
theorem pX{op:Op}{f:CS}(h:cR P gl op= .op f):lq P gl op= .mk f∧(∀c,op≠.defer c)∧∀c,op≠.call c:=by
 cases op<;>simp only[cR] at h
 case call c=>split at h<;>cases h
 case defer c=>split at h<;>cases h
 all_goals
  refine⟨?_,(by intro c hc;cases hc),(by intro c hc;cases hc)⟩
  cases hs:lq P gl _ with
  |mk g=>rw[hs] at h;cases h;rfl
theorem D4{o:Oper}{sz:Nat}{tm:T V}{hp:T ah}{nx:Id}{df:V}{e:bx}(hnd:∀c,o.op≠.defer c)(hd:lr sz o.dst=true)
 (h:∀L E a w,num (e.nx nx)≤L→Ok gl L sz tm hp nx E a w→qH P L hp nx E w e (execOp a.eval o)):jo P gl o sz tm hp nx df (zG o.dst (some e.val) tm) (e.hp nx hp) (e.nx nx) df:=by
 refine⟨s0 e nx,?_⟩
 intro r L E a w hL hok hrf K Q hK
 obtain⟨n,v,w',E',h1,h2,h3,h4,h5,h6⟩:=h L E a w hL hok hL
 unfold Oper.wpIn
 refine⟨fun _ _=>trivial,?_⟩
 rw[Oper.semAt_eq _ _ _ hnd,h1]
 have hle:=h6.le hok.vf hL
 have fin:=hK E' (a.put o.dst v) w' (hok.J5 hL hd h3 h4 h5 h6) (by rw[put_defers];exact hrf.mono hle) h6
 rcases h2 with h2|⟨h2,h2'⟩
 ·subst h2;exact fin
 ·subst h2;subst h2';exact fin
theorem Fi{o:Oper}{sz:Nat}{tm:T V}{hp:T ah}{nx:Id}{df:V}{k:ir}{f:CS}{R:Rs}(hc:cR P gl o.op= .op f)(hd:lr sz o.dst=true)(h:J2 o.dst tm hp nx df k f=some R):
 ∃tm' hp' nx' df',k tm' hp' nx' df'=some R∧jo P gl o sz tm hp nx df tm' hp' nx' df':=by
 obtain⟨e,h1,h2⟩:=aa h
 obtain⟨c1,c2,c3⟩:=pX hc
 refine⟨_,_,_,_,kj h2,D4 c2 hd ?_⟩
 intro L E a w hL hok
 exact ya hok.vt hok.vh hok.vf (fun _ _ hb=>hb) hok.vg c1 h1
theorem rH{op:Op}{b:Builtin}{args:List Operand}{ts:List TypeId}(h:cR P gl op= .blt b args ts):∃c,op= .call c∧c.callee= .builtin b∧c.args.toList=args∧c.argTypes.toList=ts:=by
 cases op<;>simp only[cR] at h
 case call c=>
  split at h
  ·rename_i b' hb';cases h;exact⟨c,rfl,hb',rfl,rfl⟩
  ·cases h
  ·cases h
 case defer c=>split at h<;>cases h
 all_goals(cases hs:lq P gl _ with|mk g=>rw[hs] at h;cases h)
theorem C1{o:Oper}{sz:Nat}{tm:T V}{hp:T ah}{nx:Id}{df:V}{k:ir}{b:Builtin}{args:List Operand}{ts:List TypeId}{R:Rs}(hc:cR P gl o.op= .blt b args ts)(hd:lr sz o.dst=true)(h:G5 P o.dst tm hp nx df k b args ts=some R):
 ∃tm' hp' nx' df',k tm' hp' nx' df'=some R∧jo P gl o sz tm hp nx df tm' hp' nx' df':=by
 obtain⟨x,h1,h2⟩:=aa h
 obtain⟨e,h3,h4⟩:=aa h2
 obtain⟨c,c1,c2,c3,c4⟩:=rH hc
 subst c3;subst c4
 refine⟨_,_,_,_,kj h4,D4 (by rw[c1];intro c hc;cases hc) hd ?_⟩
 intro L E a w hL hok
 have hx:=dU hok.vt h1
 have:=lZ (P:=P) (ty:=o.type) (cs:=c.args.map fun| .const _=>true|_=>false) (vs:=c.args.map a.eval) hok.vh hok.vf (fun _ _ hb=>hb) (by simpa using hx) h3
 intro hL'
 obtain⟨n,v,w',E',g1,g2⟩:=this hL'
 refine⟨n,v,w',E',?_,g2⟩
 simp only[execOp,c1,resolve,c2,Sem.run_bind,Sem.run_pure,Result.andThen_ok,invoke]
 exact g1
theorem Be{E:Env}:RV E (.bJ .nil) undef:=by
 exact⟨#[],rfl,(aD.bL).2 rfl⟩
theorem wT{v:V}{f:Bool→Option Bool}{b:Bool}(h:pT v f=some b):(v= .bJ .nil∧b=false)∨∃c,v= .b c∧f c=some b:=by
 cases v with
 |b c=>exact Or.inr ⟨c,rfl,h⟩
 |
  bJ l=>
  rcases bC (show l.split (some false) (fun _ _=>none) none=some b from h) with⟨rfl,h⟩|⟨_,_,_,h⟩
  ·cases h;exact Or.inl ⟨rfl,rfl⟩
  ·cases h
 |_=>cases h
theorem tc{ops:Array Oper}{tm:T V}{E:Env}{a:Act}(hT:RT E tm a.tmps){o:Oper}{b:Bool}(h:want ops.toList tm o.guard=some b):Region.wanted o (yielded ops a.tmps)=b:=by
 unfold Region.wanted
 cases hg:o.guard with
 |none=>rw[hg] at h;cases(show some true=some b from h);rfl
 |
  some p=>
  rw[hg] at h
  obtain⟨o',h1,h2⟩:=aa (show(bO (ei ops.toList p.1) fun o=>bO o.dst fun d=>bO (get (aA d) tm) fun v=>pT v fun b=>some (@Bool.rec (fun _=>Bool) (cD p.2) p.2 b))=some b from h)
  obtain⟨d,h3,h4⟩:=aa h2
  obtain⟨v,h5,h6⟩:=aa h4
  obtain⟨u,u1,u2⟩:=hT _ _ h5
  rw[cq] at u1
  rcases wT h6 with⟨rfl,rfl⟩|⟨c,rfl,h7⟩
  ·simp only[RV,aD.bL] at u2
   obtain⟨a0,rfl,_⟩:=u2
   rw[di] at h1
   have:ops[p.1]? =some o':=by simpa using h1
   simp[yielded,this,h3,u1]
  simp only[RV] at u2
  subst u2
  rw[di] at h1
  have hy:yielded ops a.tmps p.1=some c:=by
   have:ops[p.1]? =some o':=by simpa using h1
   simp[yielded,this,h3,u1]
  obtain⟨j,want⟩:=p
  simp only at hy h7 ⊢
  rw[hy]
  cases h7
  cases c<;>cases want<;>rfl
theorem tg{hf:Hk}{ih:cX}{sz:Nat}{ops:Array Oper}(hop:∀o tm hp nx df k R,lr sz o.dst=true→G9 P gl hf ih o tm hp nx df k=some R→∃tm' hp' nx' df',k tm' hp' nx' df'=some R∧jo P gl o sz tm hp nx df tm' hp' nx' df'):
 ∀(l:List Oper)(i:Nat),ops.toList.drop i=l→∀tm hp nx df x tm' hp' nx' df',ze P gl hf ih sz ops.toList l tm hp nx df=some (.mk x tm' hp' nx' df')→x= .gj∧num nx≤num nx'∧
  ∀(r:Option Nat)(L:Nat)(E:Env)(a:Act)(w:World),num nx'≤L→Ok gl L sz tm hp nx E a w→RF r E df a.defers→∀Q:Exit→Act→World→Prop,
   (∀E' a' w',Ok gl L sz tm' hp' nx' E' a' w'→RF r E' df' a'.defers→Ex hp nx E w hp' nx' E' w'→Q .normal a' w')→wpOpsIn (Fr r) 0 P ops Q ((List.range l.length).map (·+i)) a w
 |
  [],i,hl,tm,hp,nx,df,x,tm',hp',nx',df',h=>by
  cases(show some (Rs.mk .gj tm hp nx df)=some (.mk x tm' hp' nx' df') from h)
  refine⟨rfl,Nat.le_refl _,?_⟩
  intro r L E a w hL hok hrf Q hQ
  exact hQ E a w hok hrf (Ex.refl _ _ _ _)
 |
  o::l,i,hl,tm,hp,nx,df,x,tm',hp',nx',df',h=>by
  obtain⟨hd,h1⟩:=af (show bd (lr sz o.dst) (bO (want ops.toList tm o.guard) fun w=>@Bool.rec (fun _=>Option Rs) (gu o.dst (some (.bJ .nil)) tm fun tm=>ze P gl hf ih sz ops.toList l tm hp nx df) (G9 P gl hf ih o tm hp nx df (ze P gl hf ih sz ops.toList l)) w)=some (.mk x tm' hp' nx' df') from h)
  obtain⟨wt,hw,h2⟩:=aa h1
  have hi:ops[i]? =some o:=by
   have:=congrArg (·[0]?) hl
   simpa using this
  have hl':ops.toList.drop (i+1)=l:=by
   have:=congrArg (List.drop 1) hl
   simpa using this
  have e:(List.range (o::l).length).map (·+i)=i::(List.range l.length).map (·+(i+1)):=by
   rw[List.length_cons,List.range_succ_eq_map]
   simp only[List.map_cons,Nat.zero_add,List.map_map]
   congr 1
   apply List.map_congr_left
   intro x _
   simp;omega
  cases wt with
  |
   true=>
   obtain⟨jH,cP,dK,df1,h3,h4,h5⟩:=hop o tm hp nx df _ _ hd h2
   obtain⟨i1,i2,i3⟩:=tg hop l (i+1) hl' jH cP dK df1 x tm' hp' nx' df' h3
   refine⟨i1,Nat.le_trans h4 i2,?_⟩
   intro r L E a w hL hok hrf Q hQ
   rw[e,wpOpsIn_cons]
   unfold wpOpIn
   simp only[hi,tc hok.vt hw,if_true]
   refine h5 r L E a w (Nat.le_trans i2 hL) hok hrf _ Q ?_
   intro E' a' w' k1 k2 k3
   exact i3 r L E' a' w' hL k1 k2 Q (fun E2 a2 w2 q1 q2 q3=>hQ E2 a2 w2 q1 q2 (k3.trans q3))
  |
   false=>
   have h3:gu o.dst (some (.bJ .nil)) tm (fun tm=>ze P gl hf ih sz ops.toList l tm hp nx df)=some (.mk x tm' hp' nx' df'):=h2
   rw[dV] at h3
   obtain⟨i1,i2,i3⟩:=tg hop l (i+1) hl' _ hp nx df x tm' hp' nx' df' h3
   refine⟨i1,i2,?_⟩
   intro r L E a w hL hok hrf Q hQ
   rw[e,wpOpsIn_cons]
   unfold wpOpIn
   simp only[hi,tc hok.vt hw,Bool.false_eq_true,if_false]
   refine⟨fun _ _=>trivial,?_⟩
   exact i3 r L E (a.put o.dst undef) w hL ⟨oA hok.vt (Be) (s9 hd hok.vs),by rw[fV];exact hok.vs,hok.vh,hok.vf,hok.vg⟩ (by rw[put_defers];exact hrf) Q hQ
end
end Go.Cm
namespace Go.Cm
section
variable{P:Program} {gl:List V} {E:Env} {w:World}
theorem C2{k:ah}(h:k.CU=true):k= .df:=by cases k<;>first|rfl|cases h
theorem jW{α:Type}{k:ah}{f:LoopState→Option Code→FuncId→T V→Nat→Array Tmp→Code→Code→Id→Option α}{y:α}(h:k.E9 f=some y):∃st pe fn tm sz ps asg body d,k= .lp st pe fn tm sz ps asg body d∧f st pe fn tm sz ps asg body d=some y:=by
 cases k<;>first|exact⟨_,_,_,_,_,_,_,_,_,rfl,h⟩|cases h
theorem fc{α:Type}{r:Option Rs}{k:Xt→T V→T ah→Id→V→Option α}{y:α}(h:zE r k=some y):∃x tm hp nx df,r=some (.mk x tm hp nx df)∧k x tm hp nx df=some y:=by
 cases r with
 |none=>cases h
 |some r=>cases r with|mk x tm hp nx df=>exact⟨x,tm,hp,nx,df,rfl,h⟩
theorem RH.shut{hp:T ah}{nx:Id}(h:RH E hp w){b:Id}{k0:ah}{g:Nat}{o:Obj}(hb:get b hp=some k0)(hg:E.g b=some g)(w':World)(hs:w'.heap=w.heap.setIfInBounds g o)(ho:w'.os=w.os)(ht:Tp w w')(hu:w'.output=w.output):
 RH E (put none b hp) w'∧Ex hp nx E w (put none b hp) nx E w':=by
 have key:∀b' k',get b' (put none b hp)=some k'→b'≠b∧get b' hp=some k':=by
  intro b' k' hb'
  rw[bH] at hb'
  split at hb'
  ·cases hb'
  ·rename_i hne;exact⟨hne,hb'⟩
 refine⟨⟨?_,?_⟩,⟨ho,ht,hu,by rw[hs];simp,?_,?_,Nat.le_refl _,fun _ _=>⟨rfl,rfl⟩⟩⟩
 ·intro b' k' hb'
  obtain⟨hne,hb1⟩:=key b' k' hb'
  obtain⟨g',o',h1,h2,h3⟩:=h.bp b' k' hb1
  refine⟨g',o',h1,?_,h3⟩
  have:g≠g':=fun e=>hne (by subst e;exact h.sep b' b k' k0 g hb1 hb h1 hg)
  rw[hs,Array.getElem?_setIfInBounds,if_neg this];exact h2
 ·intro b1 b2 k1 k2 g' h1 h2 g1 g2
  exact h.sep b1 b2 k1 k2 g' (key b1 k1 h1).2 (key b2 k2 h2).2 g1 g2
 ·intro g' hg' hn
  have:g≠g':=fun e=>hn (by subst e;exact⟨b,k0,hb,hg⟩)
  rw[hs,Array.getElem?_setIfInBounds,if_neg this]
 ·rintro g' ⟨b',k',hb',hg'⟩
  exact Or.inl ⟨b',k',(key b' k' hb').2,hg'⟩
noncomputable def bT(args:V):Id→T V→T V:=
 @V.rec (fun _=>Id→T V→T V) (fun _ _ t=>t) (fun _ _ _ t=>t) (fun _ _ t=>t) (fun _ _ _ t=>t) (fun _ t=>t) (fun _ _ _ _ _ t=>t) (fun _ _ _ _ _ t=>t) (fun _ t=>t) (fun _ t=>t) (fun _ _ t=>t) (fun _ t=>t) (fun _ _ _ _ _ _ t=>t) (fun _ _ t=>t) (fun _ t=>t) (fun _ _ _ _ t=>t) (fun _ t=>t) (fun _ _ _ t=>t) (fun _ _ _ t=>t) (fun _ t=>t) (fun _ t=>t)
  (fun a _ _ ih p t=>ih (jv p) (put (some a) p t)) args
theorem uW{β:Type}:∀(args:V)(p:Id)(t:T V)(k:T V→β),uM args p t k=k (bT args p t):=by
 intro args
 induction args with
 |
  cons a l _ ih=>
  intro p t k
  show db (some a) p t (fun t=>AP (jv p) fun p=>uM l p t k)=_
  rw[bR,ll,ih];rfl
 |_=>intro p t k;rfl
theorem Ho{arr:Array Value}:∀{args:V}{vs:List Value}{p:Id}{t:T V},aD E args vs→RT E t arr→(∀(i:Nat)(v:Value),vs[i]? =some v→arr[num p+i]? =some v)→RT E (bT args p t) arr:=by
 intro args
 induction args with
 |nil=>intro vs p t h ht _;exact ht
 |
  cons a l _ ih=>
  intro vs p t h ht hv
  obtain⟨v,r,rfl,h1,h2⟩:=aD.aw.1 h
  show RT E (bT l (jv p) (put (some a) p t)) arr
  refine ih h2 ?_ ?_
  ·intro q y hq
   rw[bH] at hq
   split at hq
   ·rename_i e;subst e;cases hq
    exact⟨v,by have:=hv 0 v rfl;simpa using this,h1⟩
   ·exact ht q y hq
  ·intro i u hu
   rw[bg]
   have:=hv (i+1) u (by simpa using hu)
   rw[show num p+1+i=num p+(i+1) from by omega];exact this
 |_=>intro vs p t h;simp[aD] at h
theorem pY{args:V}{vs:List Value}{n:Nat}(h:aD E args vs):RT E (bT args [] .e) (vs.toArray++Array.replicate (n -vs.toArray.size) undef)∧n≤(vs.toArray++Array.replicate (n -vs.toArray.size) undef).size:=by
 refine⟨Ho h (fun p v hp=>by rw[gn] at hp;cases hp) ?_,by simp;omega⟩
 intro i v hv
 have hlt:i<vs.length:=(List.getElem?_eq_some_iff.1 hv).1
 show(vs.toArray++_)[0+i]? =some v
 rw[Nat.zero_add,Array.getElem?_append,if_pos (by simpa using hlt)]
 simpa using hv
theorem yb{hp:T ah}{tm:T V}{a:Array Value}(hT:RT E tm a)(hH:RH E hp w):∀{l:List ResultVar}{x:V},lV P hp tm l=some x→∃vs:List Value,(l.mapM (Abs.kI a)).run P w= .ok vs w∧aD E x vs
 |[],x,h=>by cases h;exact⟨[],by simp,by simp[aD]⟩
 |
  r::l,x,h=>by
  obtain⟨v,h1,h2⟩:=aa (show(bO (@ResultVar.casesOn (fun _=>Option V) r (fun t=>get (aA t) tm) (fun a t=>bO (get (aA a) tm) fun p=>du P (fun b=>get b hp) t p)) fun v=>bO (lV P hp tm l) fun l=>some (.cons v l))=some x from h)
  obtain⟨m,h3,h4⟩:=aa h2
  cases h4
  obtain⟨vs,i1,i2⟩:=yb hT hH h3
  have hone:∃u,(Abs.kI a r).run P w= .ok u w∧RV E v u:=by
   cases r with
   |
    tmp t=>
    obtain⟨u,u1,u2⟩:=hT _ _ (show get (aA t) tm=some v from h1)
    rw[cq] at u1
    exact⟨u,by simp[Abs.kI,u1],u2⟩
   |
    cell c t=>
    obtain⟨p,p1,p2⟩:=aa (show(bO (get (aA c) tm) fun p=>du P (fun b=>get b hp) t p)=some v from h1)
    obtain⟨u,u1,u2⟩:=hT _ _ p1
    rw[cq] at u1
    obtain⟨z,z1,z2⟩:=gC (P:=P) (w:=w) hH (fun _ _ hb=>hb) u2 p2
    obtain⟨b,o,rfl,_⟩:=dQ p2
    simp only[RV] at u2
    obtain⟨g,hg,rfl⟩:=u2
    refine⟨z,?_,z2⟩
    simp only[Abs.kI,Sem.run_bind]
    have:a.getD c undef= .pointer (some ⟨g,o,none⟩):=by simp[u1]
    rw[this]
    simpa[asAddr,Instr.loadAt,Instr.sureAddr] using z1
  obtain⟨u,u1,u2⟩:=hone
  exact⟨u::vs,by simp[List.mapM_cons,u1,i1],aD.aw.2 ⟨_,_,rfl,u2,i2⟩⟩
theorem lu{hp:T ah}{tm:T V}{a:Array Value}(hT:RT E tm a)(hH:RH E hp w){fn:Func}{x:V}(h:lV P hp tm fn.results.toList=some x):∃u,(results fn a).run P w= .ok u w∧RV E (one x) u:=by
 obtain⟨vs,h1,h2⟩:=yb (P:=P) (w:=w) hT hH h
 have hm:(fn.results.mapM (Abs.kI a)).run P w= .ok vs.toArray w:=by
  rw[Array.mapM_eq_mapM_toList]
  simp only[Sem.run_map]
  rw[h1];rfl
 rw[Abs.lg]
 simp only[Sem.run_bind,hm,Result.andThen_ok,Sem.run_pure]
 refine⟨_,rfl,?_⟩
 have bJ:∀{y:V},aD E y vs→vs.length≠1→RV E (.bJ y) (if h:vs.toArray.size=1 then vs.toArray[0] else .tuple vs.toArray):=by
  intro y hy hne
  rw[dif_neg (by simpa using hne)]
  simp only[RV]
  exact⟨_,rfl,hy⟩
 cases x with
 |
  nil=>
  rw[aD.bL] at h2;subst h2
  exact bJ (by simp[aD]) (by simp)
 |
  cons b m=>
  obtain⟨v,r,rfl,v1,v2⟩:=aD.aw.1 h2
  cases m with
  |
   nil=>
   rw[aD.bL] at v2;subst v2
   show RV E b _
   simpa using v1
  |
   cons c m'=>
   obtain⟨v',r',rfl,_,_⟩:=aD.aw.1 v2
   exact bJ h2 (by simp)
  |_=>simp[aD] at v2
 |_=>simp[aD] at h2
end
end Go.Cm
namespace Go.Cm
section
variable{P:Program} {gl:List V} {ih:cX}
theorem C3{o:Op}(h:Fb o=true):∃ts,o= .call {callee:=.builtin .recover,args:= #[],argTypes:=ts}:=by
 cases o<;>simp only[Fb] at h<;>first|(cases h;done)|skip
 rename_i c
 obtain⟨ce,axs,ts⟩:=c
 cases ce<;>simp only at h<;>first|(cases h;done)|skip
 rename_i b
 cases b<;>simp only at h<;>first|(cases h;done)|skip
 refine⟨ts,?_⟩
 have:axs= #[]:=by simpa using h
 subst this;rfl
theorem C4{o:Op}{t:Tmp}(h:Fe o=some t):o= .assign (.tmp t):=by
 cases o<;>simp only[Fe] at h<;>first|(cases h;done)|skip
 rename_i x
 cases x<;>simp only at h<;>first|(cases h;done)|skip
 cases h;rfl
theorem uX{c:Code}{t5 t2:Tmp}{rest:Code}(h:pS c=some (t5,t2,rest)):∃rid o0 o1 ts,c= .seq (.region rid #[o0,o1] false) rest∧o0.op= .call {callee:=.builtin .recover,args:= #[],argTypes:=ts}∧o0.dst=some t5∧o0.guard=none∧o1.op= .assign (.tmp t5)∧o1.dst=some t2∧o1.guard=none:=by
 cases c<;>simp only[pS] at h<;>first|(cases h;done)|skip
 rename_i a rest'
 cases a<;>simp only at h<;>first|(cases h;done)|skip
 rename_i rid ops d
 obtain⟨hd,h1⟩:=af h
 obtain⟨p,hp,h2⟩:=aa h1
 cases h2
 have hd:d=false:=by cases d;rfl;cases hd
 subst hd
 obtain⟨l⟩:=ops
 simp only at hp
 unfold AZ at hp
 split at hp
 ·rename_i o0 o1
  obtain⟨g1,g2⟩:=af hp
  obtain⟨g3,g4⟩:=af g2
  obtain⟨g5,g6⟩:=af g4
  obtain⟨t5',g7,g8⟩:=aa g6
  obtain⟨t2',g9,g10⟩:=aa g8
  obtain⟨t,g11,g12⟩:=aa g10
  obtain⟨g13,g14⟩:=af g12
  cases g14
  obtain⟨ts,q⟩:=C3 g1
  have:=C4 g11
  have e:t=t5':=bf g13
  subst e
  exact⟨rid,o0,o1,ts,rfl,q,g7,by simpa using g3,this,g9,by simpa using g5⟩
 ·cases hp
theorem Fj{E:Env}{ds:List Deferred}(h:RD E .nil ds):ds= []:=h
theorem C5(hI:qI P gl ih){f:FuncId}{args:V}{hp:T ah}{nx:Id}{k:T ah→Id→Option Rs}{R:Rs}(h:CV P ih f args hp nx k=some R):
 ∃hp' nx',k hp' nx'=some R∧(∃fn,P.funcs[f]? =some fn∧fn.body≠none)∧num nx≤num nx'∧∀L E w vs,num nx'≤L→aD E args vs→RH E hp w→bG L nx E→GL gl hp E w→
  CallsDIn Fence.wide 0 P f vs.toArray .returning w (fun e u w'=>u= .returning∧(∃v,e= .returned v)∧∃E',RH E' hp' w'∧bG L nx' E'∧Ex hp nx E w hp' nx' E' w'):=by
 obtain⟨fn,hfn,h1⟩:=aa h
 obtain⟨c,hc,h2⟩:=aa h1
 obtain⟨s,hs,h3⟩:=aa h2
 obtain⟨b5,h4⟩:=af h3
 obtain⟨b2,h5⟩:=af h4
 obtain⟨t5,t2,rest⟩:=s
 simp only at hs b5 b2 h5
 rw[uW,bR,bR] at h5
 obtain⟨x,tm',hp',nx',df',hrun,h6⟩:=fc h5
 obtain⟨s1,s2⟩:=hI _ _ _ _ _ _ _ _ _ _ _ _ hrun
 rw[di] at hfn
 have hf':P.funcs[f]? =some fn:=by simpa using hfn
 obtain⟨rid,o0,o1,ts,e0,e1,e2,e3,e4,e5,e6⟩:=uX hs
 have fin:∃y,df'= .nil∧lV P hp' tm' fn.results.toList=some y∧k hp' nx'=some R∧(pW x= .normal∨pW x= .ret):=by
  cases x with
  |
   gj=>
   rcases bC (show df'.split (bO (lV P hp' tm' fn.results.toList) fun _=>k hp' nx') (fun _ _=>none) none=some R from h6) with⟨q1,q2⟩|⟨_,_,_,q⟩
   ·obtain⟨y,y1,y2⟩:=aa q2
    exact⟨y,q1,y1,y2,Or.inl rfl⟩
   ·cases q
  |ext i=>cases h6
  |
   ret=>
   rcases bC (show df'.split (bO (lV P hp' tm' fn.results.toList) fun _=>k hp' nx') (fun _ _=>none) none=some R from h6) with⟨q1,q2⟩|⟨_,_,_,q⟩
   ·obtain⟨y,y1,y2⟩:=aa q2
    exact⟨y,q1,y1,y2,Or.inr rfl⟩
   ·cases q
 obtain⟨y,hdf,hy,hk,hx⟩:=fin
 refine⟨hp',nx',hk,⟨fn,hf',by rw[hc];simp⟩,s1,?_⟩
 intro L E w vs hL hv hH hF hG
 refine callsDIn_of_wpSIn (F:=Fence.wide) hf' (by rw[hc,e0]) trivial ?_
 intro c0 cs hm
 obtain⟨fr1,fr2⟩:=pY (n:=fn.ntmps) hv
 refine wpSIn_seq (wpSIn_region ?_)
 show wpOpsSIn _ _ _ _ _ [0,1] _ _ _
 have w0:∀y,Region.wanted o0 y=true:=by intro y;simp[Region.wanted,e3]
 have w1:∀y,Region.wanted o1 y=true:=by intro y;simp[Region.wanted,e6]
 have x0:∀ρ:Operand→Value,(execOp ρ o0).run P w= .ok .recover w:=by
  intro ρ
  simp[execOp,e1,resolve,invoke,builtin]
 have hrc:recoverD (c0::cs)=none:=by simp[recoverD,hm]
 have ei0:(#[o0,o1]:Array Oper)[0]? =some o0:=rfl
 have ei1:(#[o0,o1]:Array Oper)[1]? =some o1:=rfl
 have b5:t5<fn.ntmps:=Nat.le_of_ble_eq_true b5
 have b2:t2<fn.ntmps:=Nat.le_of_ble_eq_true b2
 simp only[wpOpsSIn,ei0,ei1,w0,w1,if_true,x0,hrc]
 refine⟨fun _ _=>trivial,fun _ _=>trivial,?_⟩
 have hnil:RV E .ni .nilIface:=by simp only[RV]
 have g1:=oA (a:={tmps:=vs.toArray++Array.replicate (fn.ntmps -vs.toArray.size) undef,defers:=[]}) fr1 (d:=some t5) hnil (fun t ht=>by cases ht;exact Nat.lt_of_lt_of_le b5 fr2)
 have hev:((({tmps:=vs.toArray++Array.replicate (fn.ntmps -vs.toArray.size) undef,defers:=[]}:Act).put o0.dst .nilIface).eval (.tmp t5))= .nilIface:=by
  rw[e2]
  have hsz:t5<(vs.toArray++Array.replicate (fn.ntmps -vs.toArray.size) undef).size:=Nat.lt_of_lt_of_le b5 fr2
  simp only[Act.put,Act.eval]
  rw[Array.getD_eq_getD_getElem?,Array.getElem?_setIfInBounds]
  rw[if_pos rfl,if_pos hsz];rfl
 have x1:(execOp (({tmps:=vs.toArray++Array.replicate (fn.ntmps -vs.toArray.size) undef,defers:=[]}:Act).put o0.dst .nilIface).eval o1).run P w= .ok (.value .nilIface) w:=by
  simp only[execOp,e4]
  rw[hev]
  rfl
 rw[x1]
 simp only
 have g2:=oA g1 (d:=some t2) hnil (fun t ht=>by cases ht;rw[fV];exact Nat.lt_of_lt_of_le b2 fr2)
 rw[e2,e5]
 have hc0:(c0::cs)={c0 with mode:=.returning}::cs:=by rw[←hm]
 refine wpSIn_of_wpIn (F:=Fence.wide) rfl ?_
 refine s2 none L E _ w hL ⟨g2,by rw[fV,fV];exact fr2,hH,hF,hG⟩ (Or.inl ⟨rfl,by rw[put_defers,put_defers];rfl⟩) _ ?_
 intro E' a' w' k1 k2 k3
 have hd:a'.defers= []:=by
  rcases k2 with⟨_,k2⟩|⟨_,_,_,k2,_⟩
  ·rw[hdf] at k2;exact Fj k2
  ·cases k2
 obtain⟨u,u1,u2⟩:=lu (P:=P) (w:=w') k1.vt k1.vh hy
 rcases hx with hx|hx
 ·rw[hx]
  exact⟨hd,.returning,hc0,u,u1,rfl,⟨u,rfl⟩,E',k1.vh,k1.vf,k3⟩
 ·rw[hx]
  exact⟨hd,.returning,hc0,u,u1,rfl,⟨u,rfl⟩,E',k1.vh,k1.vf,k3⟩
def Enters(P:Program):Prop:=∀f fn,P.funcs[f]? =some fn→fn.body≠none→∀vs w,(callFunc f vs).run P w= .ok (.enter f vs) w
theorem C6(hI:qI P gl ih)(hE:Enters P):∀{df:V}{hp:T ah}{nx:Id}{k:T ah→Id→Option Rs}{R:Rs},iM P ih df hp nx k=some R→
 ∃hp' nx',k hp' nx'=some R∧num nx≤num nx'∧∀(fn:Func)(tmps:Array Value)(Rr:Ending→World→Prop) L E w ds,num nx'≤L→RD E df ds→RH E hp w→bG L nx E→GL gl hp E w→
  (∀E' w',RH E' hp' w'→bG L nx' E'→Ex hp nx E w hp' nx' E' w'→LeavesIn (Fr none) 0 P fn tmps Rr [] .returning w')→LeavesInM (Fr none) 0 P fn tmps Rr ds .returning w:=by
 intro df
 induction df with
 |
  nil=>
  intro hp nx k R h
  refine⟨hp,nx,h,Nat.le_refl _,?_⟩
  intro fn tmps Rr L E w ds hL hd hH hF hG hK
  have hd:ds= []:=hd
  subst hd
  exact hK E w hH hF (Ex.refl _ _ _ _)
 |
  cons a l _ ihl=>
  intro hp nx k R h
  have h:(@Bool.rec (fun _=>Option Rs)
   (a.CL (fun f fs cs=>fC (gU fs cs) fun args=>CV P ih f args hp nx fun hp nx=>iM P ih l hp nx k) fun _=>none)
   (a.mp (fun b=>bO (get b hp) fun bl=>bd bl.CU (db none b hp fun hp=>iM P ih l hp nx k)) none) (@Option.rec Bool (fun _=>Bool) false (fun b=>b) (a.mp (fun _=>some true) none)))=some R:=h
  cases a with
  |
   m b=>
   obtain⟨bl,hbl,h1⟩:=aa (show(bO (get b hp) fun bl=>bd bl.CU (db none b hp fun hp=>iM P ih l hp nx k))=some R from h)
   obtain⟨hdf,h2⟩:=af h1
   have:=C2 hdf;subst this
   rw[bR] at h2
   obtain⟨hp',nx',i1,i2,i3⟩:=ihl h2
   refine⟨hp',nx',i1,i2,?_⟩
   intro fn tmps Rr L E w ds hL hd hH hF hG hK
   obtain⟨d,r,g,rfl,hg,rfl,hr⟩:=hd
   obtain⟨g',o,q1,q2,q3⟩:=hH.bp b _ hbl
   rw[hg] at q1;cases q1
   have q3:o= .deferred (some []):=q3
   subst q3
   obtain⟨s1,s2⟩:=hH.shut (nx:=nx) (o:=.deferred none) hbl hg (w.putObj g (.deferred none)) rfl rfl (Tp.r rfl rfl) rfl
   refine⟨by simp,Or.inl ⟨g,_,rfl,run_takeDeferred q2,?_⟩⟩
   exact i3 fn tmps Rr L E _ r hL hr s1 hF (hG.step s2) (fun E' w' k1 k2 k3=>hK E' w' k1 k2 (s2.trans k3))
  |
   fn f fs cs=>
   have h1:(fC (gU fs cs) fun args=>CV P ih f args hp nx fun hp nx=>iM P ih l hp nx k)=some R:=h
   rw[jZ] at h1
   obtain⟨cP,dK,j1,⟨fd,j2,j3⟩,j4,j5⟩:=C5 hI h1
   obtain⟨hp',nx',i1,i2,i3⟩:=ihl j1
   refine⟨hp',nx',i1,Nat.le_trans j4 i2,?_⟩
   intro fn tmps Rr L E w ds hL hd hH hF hG hK
   obtain⟨d,r,a,c,rfl,rfl,hfs,hcs,hr⟩:=hd
   have hv:aD E (gU fs cs) (a.toList++c.toList):=hfs.app hcs
   have hcall:=j5 L E w (a.toList++c.toList) (Nat.le_trans i2 hL) hv hH hF hG
   have harr:(a.toList++c.toList).toArray=a++c:=by apply Array.ext';simp
   rw[harr] at hcall
   refine⟨by simp,Or.inr ⟨fun h=>(by cases h),.func f,c,f,a++c,rfl,?_,fun _ _=>trivial,CallsDIn.mono (F:=Fence.wide) hcall ?_⟩⟩
   ·simp only[invoke];exact hE f fd j2 j3 _ _
   ·rintro e u w' ⟨rfl,⟨v,rfl⟩,E',k1,k2,k3⟩
    have hle:=k3.le hF (Nat.le_trans i2 hL)
    exact i3 fn tmps Rr L E' w' r hL (hr.mono hle) k1 k2 (hG.step k3) (fun E2 w2 q1 q2 q3=>hK E2 w2 q1 q2 (k3.trans q3))
  |_=>cases h
 |_=>intro hp nx k R h;cases h
def dc(P:Program)(gl:List V)(f:FuncId)(args:V)(hp:T ah)(nx:Id)(v:V)(hp':T ah)(nx':Id):Prop:=
 (∀vs w,(callFunc f vs).run P w= .ok (.enter f vs) w)∧num nx≤num nx'∧∀L E w vs,num nx'≤L→aD E args vs→RH E hp w→bG L nx E→GL gl hp E w→
  CallsIn Fence.wide 0 P f vs.toArray w (fun e w'=>∃u E',e= .returned u∧RV E' v u∧RH E' hp' w'∧bG L nx' E'∧Ex hp nx E w hp' nx' E' w')
theorem iO(hI:qI P gl ih)(hE:Enters P){hf:Hk}(hHash:∀args hp v,rE hp args=some v→∀nx,dc P gl hf.h args hp nx v hp nx)(hTab:∀f args v,jU hf.t f args=some v→∀hp nx,dc P gl f args hp nx v hp nx)(hExt:∀args hp nx v hp' nx',hf.xf args hp nx=some (.mk v hp' nx')→dc P gl hf.x args hp nx v hp' nx'){f:FuncId}{args:V}{hp:T ah}{nx:Id}{k:V→T ah→Id→Option Rs}{R:Rs}(h:iL P hf ih (iM P ih) f args hp nx k=some R):
 ∃v hp' nx',k v hp' nx'=some R∧dc P gl f args hp nx v hp' nx':=by
 unfold iL at h
 cases hb:Nat.beq f hf.h with
 |
  true=>
  rw[hb] at h
  have:=bf hb;subst this
  obtain⟨v,h1,h2⟩:=aa (show(bO (rE hp args) fun v=>k v hp nx)=some R from h)
  exact⟨v,hp,nx,h2,hHash args hp v h1 nx⟩
 |
  false=>
  rw[hb] at h
  cases hxb:Nat.beq f hf.x with
  |
   true=>
   rw[hxb] at h
   have:=bf hxb;subst this
   obtain⟨r,h1,h2⟩:=aa (show(bO (hf.xf args hp nx) fun r=>@Xr.casesOn (fun _=>Option Rs) r k)=some R from h)
   cases r with
   |mk v hp' nx'=>exact⟨v,hp',nx',h2,hExt args hp nx v hp' nx' h1⟩
  |false=>
  rw[hxb] at h
  have h0:@Option.rec V (fun _=>Option Rs) (bO (ei P.funcs.toList f) fun fn=>bO fn.body fun c=>uM args [] .e fun tm=>zE (ih c f fn.ntmps tm hp nx .nil) fun x tm hp nx df=>
   @Xt.casesOn (fun _=>Option Rs) x (iM P ih df hp nx fun hp nx=>bO (lV P hp tm fn.results.toList) fun v=>k (one v) hp nx) (fun _=>none) (iM P ih df hp nx fun hp nx=>bO (lV P hp tm fn.results.toList) fun v=>k (one v) hp nx)) (fun v=>k v hp nx) (@Bool.rec (fun _=>Option V) none (jU hf.t f args) (Nat.testBit hf.k f))=some R:=h
  cases hlk:@Bool.rec (fun _=>Option V) none (jU hf.t f args) (Nat.testBit hf.k f) with
  |
   some v=>
   rw[hlk] at h0
   have hlk2:jU hf.t f args=some v:=by
    cases hbt:Nat.testBit hf.k f with
    |true=>rw[hbt] at hlk;exact hlk
    |false=>rw[hbt] at hlk;cases hlk
   exact⟨v,hp,nx,h0,hTab f args v hlk2 hp nx⟩
  |none=>
  rw[hlk] at h0
  obtain⟨fn,hfn,h1⟩:=aa h0
  obtain⟨c,hc,h2⟩:=aa h1
  rw[uW] at h2
  obtain⟨x,jH,cP,dK,df1,hrun,h3⟩:=fc h2
  obtain⟨s1,s2⟩:=hI _ _ _ _ _ _ _ _ _ _ _ _ hrun
  rw[di] at hfn
  have hf':P.funcs[f]? =some fn:=by simpa using hfn
  have hx:(pW x= .normal∨pW x= .ret)∧(iM P ih df1 cP dK fun hp nx=>bO (lV P hp jH fn.results.toList) fun v=>k (one v) hp nx)=some R:=by
   cases x with
   |gj=>exact⟨Or.inl rfl,h3⟩
   |ext i=>cases h3
   |ret=>exact⟨Or.inr rfl,h3⟩
  obtain⟨hx,h4⟩:=hx
  obtain⟨nH,qY,d1,d2,d3⟩:=C6 hI hE h4
  obtain⟨y,y1,y2⟩:=aa d1
  refine⟨one y,nH,qY,y2,hE f fn hf' (by rw[hc];simp),Nat.le_trans s1 d2,?_⟩
  intro L E w vs hL hv hH hF hG
  refine callsIn_of_wp_marks (F:=Fence.wide) hf' hc trivial ?_ rfl
  obtain⟨fr1,fr2⟩:=pY (n:=fn.ntmps) hv
  refine s2 none L E {tmps:=vs.toArray++Array.replicate (fn.ntmps -vs.toArray.size) undef,defers:=[]} w (Nat.le_trans d2 hL) ⟨fr1,fr2,hH,hF,hG⟩ (Or.inl ⟨rfl,show RD E .nil [] from rfl⟩) _ ?_
  intro E1 a1 w1 k1 k2 k3
  have hrd:RD E1 df1 a1.defers:=by
   rcases k2 with⟨_,k2⟩|⟨_,_,_,k2,_⟩
   ·exact k2
   ·cases k2
  have leave:LeavesInM (Fr none) 0 P fn a1.tmps (fun e w'=>∃u E',e= .returned u∧RV E' (one y) u∧RH E' nH w'∧bG L qY E'∧Ex hp nx E w nH qY E' w') a1.defers .returning w1:=by
   refine d3 fn a1.tmps _ L E1 w1 a1.defers hL hrd k1.vh k1.vf k1.vg ?_
   intro E2 w2 q1 q2 q3
   have hle:=q3.le k1.vf hL
   obtain⟨u,u1,u2⟩:=lu (P:=P) (w:=w2) (k1.vt.mono hle) q1 y1
   exact⟨u,u1,u,E2,rfl,u2,q1,q2,k3.trans q3⟩
  rcases hx with hx|hx
  ·rw[hx];exact leave
  ·rw[hx];exact leave
end
end Go.Cm
namespace Go.Cm
section
variable{P:Program} {gl:List V} {ih:cX}
theorem yc{α:Type}{sz:Nat}:∀{ps:List Tmp}{args:V}{t:T V}{k:T V→Option α}{y:α},Ff sz ps args t k=some y→
 ∃t',k t'=some y∧∀(E:Env)(vs:List Value)(arr:Array Value),aD E args vs→RT E t arr→sz≤arr.size→
  vs.length=ps.length∧RT E t' ((ps.zip vs).foldl (fun t(p:Nat×Value)=>t.setIfInBounds p.1 p.2) arr)∧((ps.zip vs).foldl (fun t(p:Nat×Value)=>t.setIfInBounds p.1 p.2) arr).size=arr.size
 |
  [],args,t,k,y,h=>by
  rcases bC (show args.split (k t) (fun _ _=>none) none=some y from h) with⟨rfl,h1⟩|⟨_,_,_,h1⟩
  ·refine⟨t,h1,?_⟩
   intro E vs arr hv ht _
   rw[aD.bL] at hv;subst hv
   exact⟨rfl,ht,rfl⟩
  ·cases h1
 |
  p::ps,args,t,k,y,h=>by
  obtain⟨x,r,rfl,h1⟩:=bn (show args.split none (fun x r=>bd (Nat.ble (Nat.succ p) sz) (db (some x) (aA p) t fun t=>Ff sz ps r t k)) none=some y from h)
  obtain⟨hp,h2⟩:=af h1
  rw[bR] at h2
  obtain⟨t',i1,i2⟩:=yc h2
  refine⟨t',i1,?_⟩
  intro E vs arr hv ht hsz
  obtain⟨v,vr,rfl,v1,v2⟩:=aD.aw.1 hv
  have hlt:p<arr.size:=Nat.lt_of_lt_of_le (Nat.le_of_ble_eq_true hp) hsz
  obtain⟨j1,j2,j3⟩:=i2 E vr (arr.setIfInBounds p v) v2 (Bc ht v1 hlt) (by simpa using hsz)
  exact⟨by simp[j1],by simpa using j2,by simpa using j3⟩
theorem uY{E:Env}{w:World}{hp:T ah}(hH:RH E hp w){b:Id}{st:LoopState}{pe:Option Code}{fn:FuncId}{tm:T V}{sz:Nat}{ps:Array Tmp}{asg body:Code}{d:Id}(hb:get b hp=some (.lp st pe fn tm sz ps asg body d)){l:Nat}(hg:E.g b=some l):
 ∃a g f0,w.heap[l]? =some (.loop {state:=st,pending:=pe,fn:=f0,tmps:=a,params:=ps,assign:=asg,body:=body,defers:=g})∧RT E tm a∧sz≤a.size∧E.g d=some g:=by
 obtain⟨g',o,h1,h2,a,g,f0,rfl,h3,h4,h5⟩:=hH.bp b _ hb
 rw[hg] at h1;cases h1
 exact⟨a,g,f0,h2,h3,h4,h5⟩
def C7(P:Program)(gl:List V)(b:Id)(args:V)(hp:T ah)(nx:Id)(v:V)(hp':T ah)(nx':Id):Prop:=
 num nx≤num nx'∧∀L E w vs l,num nx'≤L→aD E args vs→RH E hp w→bG L nx E→GL gl hp E w→E.g b=some l→
  ∃fn tmps asg body,(Instr.yield l vs.toArray).run P w= .ok (.round l fn tmps asg body) w∧RoundIn Fence.wide 0 P l fn tmps asg body w (fun e w'=>∃u E',e= .returned u∧RV E' v u∧RH E' hp' w'∧bG L nx' E'∧Ex hp nx E w hp' nx' E' w')
theorem C8{b:Id}{k:V→T ah→Id→Option Rs}{x:Xt}{hp:T ah}{nx:Id}{R:Rs}(h:Fg b k x hp nx=some R):
 ∃v hp',k v hp' nx=some R∧∀E w l,RH E hp w→E.g b=some l→∃jump u w',(pW x= .normal∧jump=none∨(∃i,pW x= .exit i∧jump=some (.exit i))∨pW x= .ret∧jump=some .ret)∧(Instr.endRound l jump).run P w= .ok u w'∧RV E v u∧RH E hp' w'∧Ex hp nx E w hp' nx E w':=by
 obtain⟨bl,hbl,h1⟩:=aa h
 obtain⟨st,pe,fn,tm,sz,ps,asg,body,d,rfl,h2⟩:=jW h1
 have fin:∀(jump:Option Code)(E:Env)(w:World)(l:Nat),RH E hp w→E.g b=some l→∃u w',(Instr.endRound l jump).run P w= .ok u w'∧u= .bool jump.isNone∧
  RH E (put (some (.lp (if jump.isNone then .ready else .done) jump fn tm sz ps asg body d)) b hp) w'∧Ex hp nx E w (put (some (.lp (if jump.isNone then .ready else .done) jump fn tm sz ps asg body d)) b hp) nx E w':=by
  intro jump E w l hH hg
  obtain⟨a,g,f0,q1,q2,q3,q4⟩:=uY hH hbl hg
  obtain⟨s1,s2⟩:=hH.change (nx:=nx) (k:=.lp (if jump.isNone then .ready else .done) jump fn tm sz ps asg body d) hbl hg (w.putObj l (.loop {state:=if jump.isNone then .ready else .done,pending:=jump,fn:=f0,tmps:=a,params:=ps,assign:=asg,body:=body,defers:=g})) rfl rfl (Tp.r rfl rfl) rfl ⟨a,g,f0,rfl,q2,q3,q4⟩
  exact⟨_,_,run_endRound (P:=P) jump q1,rfl,s1,s2⟩
 cases x with
 |
  gj=>
  have h3:db (some (.lp .ready none fn tm sz ps asg body d)) b hp (fun hp=>k (.b true) hp nx)=some R:=h2
  rw[bR] at h3
  refine⟨.b true,_,h3,?_⟩
  intro E w l hH hg
  obtain⟨u,w',r1,r2,r3,r4⟩:=fin none E w l hH hg
  exact⟨none,u,w',Or.inl ⟨rfl,rfl⟩,r1,by rw[r2];simp only[RV];rfl,r3,r4⟩
 |
  ext i=>
  have h3:db (some (.lp .done (some (.exit i)) fn tm sz ps asg body d)) b hp (fun hp=>k (.b false) hp nx)=some R:=h2
  rw[bR] at h3
  refine⟨.b false,_,h3,?_⟩
  intro E w l hH hg
  obtain⟨u,w',r1,r2,r3,r4⟩:=fin (some (.exit i)) E w l hH hg
  exact⟨some (.exit i),u,w',Or.inr (Or.inl ⟨i,rfl,rfl⟩),r1,by rw[r2];simp only[RV];rfl,r3,r4⟩
 |
  ret=>
  have h3:db (some (.lp .done (some .ret) fn tm sz ps asg body d)) b hp (fun hp=>k (.b false) hp nx)=some R:=h2
  rw[bR] at h3
  refine⟨.b false,_,h3,?_⟩
  intro E w l hH hg
  obtain⟨u,w',r1,r2,r3,r4⟩:=fin (some .ret) E w l hH hg
  exact⟨some .ret,u,w',Or.inr (Or.inr ⟨rfl,rfl⟩),r1,by rw[r2];simp only[RV];rfl,r3,r4⟩
theorem rI(hI:qI P gl ih){b:Id}{args:V}{hp:T ah}{nx:Id}{k:V→T ah→Id→Option Rs}{R:Rs}(h:A0 ih b args hp nx k=some R):
 ∃v hp' nx',k v hp' nx'=some R∧C7 P gl b args hp nx v hp' nx':=by
 obtain⟨bl,hbl,h1⟩:=aa h
 obtain⟨st,pe,fn,tm,sz,ps,asg,body,d,rfl,h2⟩:=jW h1
 obtain⟨t',h3,aq⟩:=yc h2
 obtain⟨x1,jH,cP,dK,df1,run1,h4⟩:=fc h3
 have hx1:x1= .gj∧DZ ih b k fn sz body jH cP dK df1=some R:=by
  cases x1 with
  |gj=>exact⟨rfl,h4⟩
  |ext i=>cases h4
  |ret=>cases h4
 obtain⟨rfl,h5⟩:=hx1
 obtain⟨bl1,hbl1,h6⟩:=aa h5
 obtain⟨It,pe1,fn1,tmB,sz1,ps1,asg1,body1,d1,rfl,h7⟩:=jW h6
 have hst:It= .ready∧(db (some (.lp .busy pe1 fn1 tmB sz1 ps1 asg1 body1 d1)) b cP fun hp=>zE (ih body fn sz jH hp dK df1) fun x _ hp nx _=>Fg b k x hp nx)=some R:=by
  cases It with
  |ready=>exact⟨rfl,h7⟩
  |_=>cases h7
 obtain⟨rfl,h8⟩:=hst
 rw[bR] at h8
 obtain⟨x2,zD,nH,qY,df2,run2,h9⟩:=fc h8
 obtain⟨v,hp',hk,hend⟩:=C8 (P:=P) h9
 obtain⟨a1,a2⟩:=hI _ _ _ _ _ _ _ _ _ _ _ _ run1
 obtain⟨b1,b2⟩:=hI _ _ _ _ _ _ _ _ _ _ _ _ run2
 refine⟨v,hp',qY,hk,Nat.le_trans a1 b1,?_⟩
 intro L E w vs l hL hv hH hF hG hg
 obtain⟨arr,g,f0,q1,q2,q3,q4⟩:=uY hH hbl hg
 obtain⟨j1,j2,j3⟩:=aq E vs arr hv q2 q3
 have hps:vs.toArray.size=ps.size:=by simpa using j1
 refine⟨f0,_,asg,body,run_yield q1 hps,roundIn_of_wpIn (F:=Fence.wide) trivial ?_⟩
 have hzip:(ps.zip vs.toArray).foldl (fun t (p,v)=>t.setIfInBounds p v) arr=(ps.toList.zip vs).foldl (fun t(p:Nat×Value)=>t.setIfInBounds p.1 p.2) arr:=by
  rw[←Array.foldl_toList]
  congr 1
  simp
 have hL1:num dK≤L:=Nat.le_trans b1 hL
 show asg.wpIn (Fr (some l)) 0 P _ {tmps:=(ps.zip vs.toArray).foldl (fun t (p,v)=>t.setIfInBounds p v) arr,defers:=[]} w
 rw[hzip]
 refine a2 (some l) L E _ w hL1 ⟨j2,by rw[j3];exact q3,hH,hF,hG⟩ (Or.inr ⟨b,l,rfl,rfl,hg,rfl⟩) _ ?_
 intro E1 c1 w1 k1 k2 k3
 have le1:=k3.le hF hL1
 have hg1:=(le1 b l hg).1
 obtain⟨arr1,gg1,f1,p1,p2,p3,p4⟩:=uY k1.vh hbl1 hg1
 obtain⟨s1,s2⟩:=k1.vh.change (nx:=dK) (k:=.lp .busy pe1 fn1 tmB sz1 ps1 asg1 body1 d1) hbl1 hg1 (w1.putObj l (.loop {state:=.busy,pending:=pe1,fn:=f1,tmps:=arr1,params:=ps1,assign:=asg1,body:=body1,defers:=gg1})) rfl rfl (Tp.r rfl rfl) rfl ⟨arr1,gg1,f1,rfl,p2,p3,p4⟩
 refine⟨_,run_beginRound p1 rfl,?_⟩
 refine b2 (some l) L E1 c1 _ hL ⟨k1.vt,k1.vs,s1,k1.vf,k1.vg.step s2⟩ k2 _ ?_
 intro E2 c2 w2 m1 m2 m3
 have le2:=m3.le k1.vf hL
 have hg2:=(le2 b l hg1).1
 obtain⟨jump,u,w',e1,e2,e3,e4,e5⟩:=hend E2 w2 l m1.vh hg2
 have fin:∃u' E',Ending.returned u= .returned u'∧RV E' v u'∧RH E' hp' w'∧bG L qY E'∧Ex hp nx E w hp' qY E' w':=
  ⟨u,E2,rfl,e3,e4,m1.vf,((k3.trans s2).trans m3).trans e5⟩
 rcases e1 with⟨e1,rfl⟩|⟨i,e1,rfl⟩|⟨e1,rfl⟩
 ·rw[e1];exact⟨u,w',e2,fin⟩
 ·rw[e1];exact⟨u,w',e2,fin⟩
 ·rw[e1];exact⟨u,w',e2,fin⟩
theorem C9{lI:Id}{tm:T V}{df:V}{hp:T ah}{nx:Id}{x:Xt}{tm':T V}{hp':T ah}{nx':Id}{df':V}(h:CW lI tm df hp nx=some (.mk x tm' hp' nx' df')):
 tm'=tm∧nx'=nx∧df'=df∧∀E w l,RH E hp w→E.g lI=some l→∃jump w4,(Instr.endLoop l).run P w= .ok jump w4∧RH E hp' w4∧Ex hp nx E w hp' nx E w4∧
  ∀(r:Option Nat)(Q:Exit→Act→World→Prop)(a:Act),Q (pW x) a w4→(match jump with|none=>Q .normal a w4|some c=>c.wpIn (Fr r) 0 P Q a w4):=by
 obtain⟨bl,hbl,h1⟩:=aa h
 obtain⟨st,pe,fn,tmL,sz,ps,asg,body,d,rfl,h2⟩:=jW h1
 have fin:st≠.busy→∀E w l,RH E hp w→E.g lI=some l→∃w4,(Instr.endLoop l).run P w= .ok pe w4∧RH E (put none lI hp) w4∧Ex hp nx E w (put none lI hp) nx E w4:=by
  intro hst E w l hH hg
  obtain⟨a,g,f0,q1,q2,q3,q4⟩:=uY hH hbl hg
  obtain⟨s1,s2⟩:=hH.shut (nx:=nx) (o:=.loop {state:=.exhausted,pending:=pe,fn:=f0,tmps:=a,params:=ps,assign:=asg,body:=body,defers:=g}) hbl hg (w.putObj l (.loop {state:=.exhausted,pending:=pe,fn:=f0,tmps:=a,params:=ps,assign:=asg,body:=body,defers:=g})) rfl rfl (Tp.r rfl rfl) rfl
  exact⟨_,run_endLoop q1 hst,s1,s2⟩
 cases st with
 |
  ready=>
  have h3:(db none lI hp fun hp=>@Option.rec Code (fun _=>Option Rs) (some (.mk .gj tm hp nx df)) (fun _=>none) pe)=some (.mk x tm' hp' nx' df'):=h2
  rw[bR] at h3
  cases pe with
  |some c=>cases h3
  |
   none=>
   cases h3
   refine⟨rfl,rfl,rfl,?_⟩
   intro E w l hH hg
   obtain⟨w4,r1,r2,r3⟩:=fin (by simp) E w l hH hg
   exact⟨none,w4,r1,r2,r3,fun r Q a hq=>hq⟩
 |
  done=>
  have h3:(db none lI hp fun hp=>Hh pe tm hp nx df)=some (.mk x tm' hp' nx' df'):=h2
  rw[bR] at h3
  obtain⟨c,hc,h4⟩:=aa h3
  subst hc
  cases c with
  |
   exit i=>
   cases(show some (Rs.mk (.ext i) tm (put none lI hp) nx df)=some (.mk x tm' hp' nx' df') from h4)
   refine⟨rfl,rfl,rfl,?_⟩
   intro E w l hH hg
   obtain⟨w4,r1,r2,r3⟩:=fin (by simp) E w l hH hg
   exact⟨_,w4,r1,r2,r3,fun r Q a hq=>wpIn_exit hq⟩
  |
   ret=>
   cases(show some (Rs.mk .ret tm (put none lI hp) nx df)=some (.mk x tm' hp' nx' df') from h4)
   refine⟨rfl,rfl,rfl,?_⟩
   intro E w l hH hg
   obtain⟨w4,r1,r2,r3⟩:=fin (by simp) E w l hH hg
   exact⟨_,w4,r1,r2,r3,fun r Q a hq=>wpIn_ret hq⟩
  |_=>cases h4
 |_=>cases h2
end
end Go.Cm
namespace Go.Cm
structure tO(P:Program)(gl:List V)(hf:Hk):Prop where
 Fk:Enters P
 hash:∀args hp v,rE hp args=some v→∀nx,dc P gl hf.h args hp nx v hp nx
 FX:∀f args v,jU hf.t f args=some v→∀hp nx,dc P gl f args hp nx v hp nx
 ext:∀args hp nx v hp' nx',hf.xf args hp nx=some (.mk v hp' nx')→dc P gl hf.x args hp nx v hp' nx'
section
variable{P:Program} {gl:List V} {ih:cX} {hf:Hk}
theorem uZ{L:Nat}{nx:Id}{E:Env}(hF:bG L nx E)(hL:num nx<L){g n:Nat}{E':Env}(hE:E'=⟨fun b=>if b=nx then some g else E.g b,fun b=>if b=nx then n else E.n b⟩):E.le E':=by
 intro b g' hb
 have hne:b≠nx:=fun e'=>by subst e';rw[hF b (Nat.le_refl _) hL] at hb;cases hb
 subst hE
 exact⟨by simp only[if_neg hne];exact hb,by simp only[if_neg hne]⟩
theorem u9(hI:qI P gl ih)(hG:tO P gl hf){g:FuncId}{fs cs:V}{lI:Id}{tm:T V}{dfE:V}{cP:T ah}{dK:Id}{x:Xt}{tm':T V}{hp':T ah}{nx':Id}{df':V}
 (h:iL P hf ih (iM P ih) g (gU fs (.cons (.yl lI) cs)) cP dK (fun _ hp nx=>CW lI tm dfE hp nx)=some (.mk x tm' hp' nx' df')):
 tm'=tm∧df'=dfE∧num dK≤num nx'∧∀(r:Option Nat)(L:Nat)(E:Env)(w:World)(l:Nat)(fv:Value),num nx'≤L→RH E cP w→bG L dK E→GL gl cP E w→E.g lI=some l→RV E (.fn g fs cs) fv→∀(Q:Exit→Act→World→Prop)(a':Act),
  (∀E' w',RH E' hp' w'→bG L nx' E'→GL gl hp' E' w'→Ex cP dK E w hp' nx' E' w'→Q (pW x) a' w')→
  ∃d args,(Deferred.ofValue fv #[.func (.yield l) #[] #[]]).run P w= .ok d w∧(invoke d.target d.args).run P w= .ok (.enter g args) w∧CallsIn (Fr r) 0 P g args w (rangePost (Fr r) 0 P l Q a'):=by
 obtain⟨v,nH,qY,h1,c1,c2,c3⟩:=iO hI hG.Fk hG.hash hG.FX hG.ext h
 obtain⟨e1,e2,e3,e4⟩:=C9 (P:=P) h1
 subst e2
 refine⟨e1,e3,c2,?_⟩
 intro r L E w l fv hL hH hF hGl hg hfv Q a' hQ
 simp only[RV] at hfv
 obtain⟨f',c',rfl,r1,r2⟩:=hfv
 have hv:aD E (gU fs (.cons (.yl lI) cs)) (f'.toList++(Value.func (.yield l) #[] #[]::c'.toList)):=by
  refine r1.app (aD.aw.2 ⟨_,_,rfl,?_,r2⟩)
  simp only[RV]
  exact⟨l,hg,rfl⟩
 have hc:=c3 L E w _ hL hv hH hF hGl
 have harr:(f'.toList++(Value.func (.yield l) #[] #[]::c'.toList)).toArray=f'++ #[Value.func (.yield l) #[] #[]]++c':=by apply Array.ext';simp
 rw[harr] at hc
 refine⟨{target:=.fn (.func g) c',args:=f'++ #[.func (.yield l) #[] #[]]},_,by simp[Deferred.ofValue],by simp only[invoke];exact c1 _ _,CallsIn.mono (F:=Fr r) hc ?_⟩
 rintro e w2 ⟨u,E2,rfl,q1,q2,q3,q4⟩
 have hle:=q4.le hF hL
 obtain⟨jump,w4,j1,j2,j3,j4⟩:=e4 E2 w2 l q2 (hle lI l hg).1
 refine⟨jump,w4,j1,?_⟩
 have hX:=q4.trans j3
 exact j4 r Q a' (hQ E2 w4 j2 q3 (hGl.step hX) hX)
theorem Da(hI:qI P gl ih)(hG:tO P gl hf){f:Operand}{ps:Array Tmp}{asg body:Code}{fid sz:Nat}{tm:T V}{hp:T ah}{nx:Id}{df:V}{x:Xt}{tm':T V}{hp':T ah}{nx':Id}{df':V}
 (h:Hj P hf ih f ps asg body fid sz tm hp nx df=some (.mk x tm' hp' nx' df')):dM P gl (.rangeFunc f ps asg body) sz tm hp nx df x tm' hp' nx' df':=by
 obtain⟨fv,hfv,h1⟩:=aa h
 rcases jV h1 with⟨g,fs,cs,rfl,h2⟩|⟨_,_,h2⟩
 ·have hcase:((df= .nil∨∃a l,df= .cons a l)∧xV P hf ih ps asg body fid sz tm hp nx df g fs cs=some (.mk x tm' hp' nx' df'))∨
   (∃lb d,df= .yl lb∧(∃st pe fn tmL szL psL asgL bodyL,get lb hp=some (.lp st pe fn tmL szL psL asgL bodyL d))∧xW P hf ih ps asg body fid sz tm hp nx df g fs cs d=some (.mk x tm' hp' nx' df')):=by
   cases df with
   |nil=>exact Or.inl ⟨Or.inl rfl,h2⟩
   |cons a l=>exact Or.inl ⟨Or.inr ⟨a,l,rfl⟩,h2⟩
   |
    yl lb=>
    obtain⟨bl,hbl,h3⟩:=aa (show(bO (get lb hp) fun bl=>bl.E9 fun _ _ _ _ _ _ _ _ d=>xW P hf ih ps asg body fid sz tm hp nx (.yl lb) g fs cs d)=some (.mk x tm' hp' nx' df') from h2)
    obtain⟨st,pe,fn,tmL,szL,psL,asgL,bodyL,d,rfl,h4⟩:=jW h3
    exact Or.inr ⟨lb,d,rfl,⟨_,_,_,_,_,_,_,_,hbl⟩,h4⟩
   |_=>cases h2
  rcases hcase with⟨hch,h3⟩|⟨lb,d,rfl,⟨st,pe,fn,tmL,szL,psL,asgL,bodyL,hlb⟩,h3⟩
  ·
   unfold xV at h3
   rw[bR,ll,bR,ll,jZ] at h3
   obtain⟨e1,e2,e3,e4⟩:=u9 hI hG h3
   rw[bg,bg] at e3
   refine⟨by omega,?_⟩
   intro r L E a w hL hok hrf Q hQ
   have hrf:r=none∧RD E df a.defers:=by
    rcases hrf with hrf|⟨b,l,hb,_⟩
    ·exact hrf
    ·rcases hch with hc|⟨_,_,hc⟩<;>(rw[hb] at hc;cases hc)
   obtain⟨rfl,hrd⟩:=hrf
   refine wpIn_rangeFunc ?_
   intro fn _
   obtain⟨E1,hE1⟩:∃E1:Env,E1=⟨fun b=>if b=nx then some w.heap.size else E.g b,fun b=>if b=nx then 0 else E.n b⟩:=⟨_,rfl⟩
   obtain⟨a1,a2,a3,a4,a5⟩:=hok.vh.fresh hok.vf (by omega) (k:=.df) (o:=.deferred (some [])) (n:=0) (w.alloc (.deferred (some []))) rfl rfl (Tp.r rfl rfl) rfl E1 hE1 rfl
   have hn1:num (jv nx)<L:=by rw[bg];omega
   obtain⟨E2,hE2⟩:∃E2:Env,E2=⟨fun b=>if b=jv nx then some (w.alloc (.deferred (some []))).heap.size else E1.g b,fun b=>if b=jv nx then 0 else E1.n b⟩:=⟨_,rfl⟩
   have hle2:=uZ a2 hn1 hE2
   have hsz1:(w.alloc (.deferred (some []))).heap.size=w.heap.size+1:=by simp
   obtain⟨b1,b2,b3,b4,b5⟩:=a1.fresh a2 hn1 (k:=.lp .ready none fid tm sz ps asg body nx) (o:=.loop {state:=.ready,pending:=none,fn:=fn,tmps:=a.tmps,params:=ps,assign:=asg,body:=body,defers:=w.heap.size}) (n:=0) ((w.alloc (.deferred (some []))).alloc (.loop {state:=.ready,pending:=none,fn:=fn,tmps:=a.tmps,params:=ps,assign:=asg,body:=body,defers:=w.heap.size})) rfl rfl (Tp.r rfl rfl) rfl E2 hE2
    ⟨a.tmps,w.heap.size,fn,rfl,(hok.vt.mono a4).mono hle2,hok.vs,(hle2 nx _ a5).1⟩
   have X:=a3.trans b3
   rw[hsz1] at b5
   obtain⟨dd,args,d1,d2,d3⟩:=e4 none L E2 _ (w.heap.size+1) (a.eval f) hL b1 b2 (hok.vg.step X) b5 (((aJ hok.vt hfv).mono a4).mono hle2) Q {a with defers:={target:=.collected w.heap.size,args:= #[]}::a.defers} (by
    intro E' w' q1 q2 q3 q4
    have hle3:=q4.le b2 hL
    subst e1;subst e2
    exact hQ E' _ w' ⟨((hok.vt.mono a4).mono hle2).mono hle3,hok.vs,q1,q2,q3⟩ (Or.inl ⟨rfl,⟨_,_,w.heap.size,rfl,(hle3 nx _ (hle2 nx _ a5).1).1,rfl,((hrd.mono a4).mono hle2).mono hle3⟩⟩) (X.trans q4))
   refine⟨w.heap.size+1,[{target:=.collected w.heap.size,args:= #[]}],_,dd,_,g,args,_,run_enterLoop_outer fn a.tmps ps asg body,?_,fun _ _=>trivial,d2,fun h=>(by cases h),d3⟩
   have hm:∀v:Value,(#[Operand.const v]).map a.eval= #[v]:=fun v=>by simp[Act.eval]
   simp only[resolve,hm]
   exact d1
  ·
   unfold xW at h3
   rw[bR,ll,jZ] at h3
   obtain⟨e1,e2,e3,e4⟩:=u9 hI hG h3
   rw[bg] at e3
   refine⟨by omega,?_⟩
   intro r L E a w hL hok hrf Q hQ
   have hrf:∃l0,r=some l0∧E.g lb=some l0∧a.defers= []:=by
    rcases hrf with⟨_,hrf⟩|⟨b,l,hb,h1,h2,h3⟩
    ·exact hrf.elim
    ·cases hb;exact⟨l,h1,h2,h3⟩
   obtain⟨l0,rfl,hg0,hds⟩:=hrf
   obtain⟨aL,gL,fL,q1,q2,q3,q4⟩:=uY hok.vh hlb hg0
   refine wpIn_rangeFunc ?_
   intro fn _
   obtain⟨E2,hE2⟩:∃E2:Env,E2=⟨fun b=>if b=nx then some w.heap.size else E.g b,fun b=>if b=nx then 0 else E.n b⟩:=⟨_,rfl⟩
   have hle2:=uZ hok.vf (show num nx<L by omega) hE2
   obtain⟨b1,b2,b3,b4,b5⟩:=hok.vh.fresh hok.vf (by omega) (k:=.lp .ready none fid tm sz ps asg body d) (o:=.loop {state:=.ready,pending:=none,fn:=fn,tmps:=a.tmps,params:=ps,assign:=asg,body:=body,defers:=gL}) (n:=0) (w.alloc (.loop {state:=.ready,pending:=none,fn:=fn,tmps:=a.tmps,params:=ps,assign:=asg,body:=body,defers:=gL})) rfl rfl (Tp.r rfl rfl) rfl E2 hE2
    ⟨a.tmps,gL,fn,rfl,hok.vt.mono hle2,hok.vs,(hle2 d _ q4).1⟩
   obtain⟨dd,args,d1,d2,d3⟩:=e4 (some l0) L E2 _ w.heap.size (a.eval f) hL b1 b2 (hok.vg.step b3) b5 ((aJ hok.vt hfv).mono hle2) Q {a with defers:=[]++a.defers} (by
    intro E' w' p1 p2 p3 p4
    have hle3:=p4.le b2 hL
    subst e1;subst e2
    exact hQ E' _ w' ⟨(hok.vt.mono hle2).mono hle3,hok.vs,p1,p2,p3⟩ (Or.inr ⟨lb,l0,rfl,rfl,(hle3 lb _ (hle2 lb _ hg0).1).1,by simp[hds]⟩) (b3.trans p4))
   refine⟨w.heap.size,[],_,dd,_,g,args,_,run_enterLoop_inner q1 fn a.tmps ps asg body,?_,fun _ _=>trivial,d2,fun h=>(by cases h),d3⟩
   have hm:∀v:Value,(#[Operand.const v]).map a.eval= #[v]:=fun v=>by simp[Act.eval]
   simp only[resolve,hm]
   exact d1
 ·cases h2
end
end Go.Cm
namespace Go.Cm
section
variable{P:Program} {gl:List V} {ih:cX} {hf:Hk}
theorem rJ{op:Op}{f:Operand}{args:List Operand}(h:cR P gl op= .val f args):∃c,op= .call c∧c.callee= .value f∧c.args.toList=args:=by
 cases op<;>simp only[cR] at h
 case call c=>
  split at h
  ·cases h
  ·rename_i b' hb';cases h;exact⟨c,rfl,hb',rfl⟩
  ·cases h
 case defer c=>split at h<;>cases h
 all_goals(cases hs:lq P gl _ with|mk g=>rw[hs] at h;cases h)
theorem rK{op:Op}{f:Operand}{name:String}{args:List Operand}(h:cR P gl op= .inv f name args):∃c,op= .call c∧c.callee= .invoke f name∧c.args.toList=args:=by
 cases op<;>simp only[cR] at h
 case call c=>
  split at h
  ·cases h
  ·cases h
  ·rename_i b' hb';cases h;exact⟨c,rfl,hb',rfl⟩
 case defer c=>split at h<;>cases h
 all_goals(cases hs:lq P gl _ with|mk g=>rw[hs] at h;cases h)
theorem zj{op:Op}{f:Operand}{args:List Operand}(h:cR P gl op= .uP f args):∃c,op= .defer c∧c.callee= .value f∧c.args.toList=args:=by
 cases op<;>simp only[cR] at h
 case call c=>split at h<;>cases h
 case defer c=>
  split at h
  ·rename_i b' hb';cases h;exact⟨c,rfl,hb',rfl⟩
  ·cases h
 all_goals(cases hs:lq P gl _ with|mk g=>rw[hs] at h;cases h)
theorem Bf{o:Oper}{sz:Nat}{tm:T V}{hp:T ah}{nx:Id}{df:V}{v:V}{hp':T ah}{nx':Id}(hnd:∀c,o.op≠.defer c)(hd:lr sz o.dst=true)(hn:num nx≤num nx')
 (h:∀L E a w,num nx'≤L→Ok gl L sz tm hp nx E a w→
  (∃f args,(execOp a.eval o).run P w= .ok (.enter f args) w∧CallsIn Fence.wide 0 P f args w (fun e w'=>∃u E',e= .returned u∧RV E' v u∧RH E' hp' w'∧bG L nx' E'∧Ex hp nx E w hp' nx' E' w'))∨
  (∃l fn tmps asg body,(execOp a.eval o).run P w= .ok (.round l fn tmps asg body) w∧RoundIn Fence.wide 0 P l fn tmps asg body w (fun e w'=>∃u E',e= .returned u∧RV E' v u∧RH E' hp' w'∧bG L nx' E'∧Ex hp nx E w hp' nx' E' w'))):
 jo P gl o sz tm hp nx df (zG o.dst (some v) tm) hp' nx' df:=by
 refine⟨hn,?_⟩
 intro r L E a w hL hok hrf K Q hK
 unfold Oper.wpIn
 refine⟨fun _ _=>trivial,?_⟩
 rw[Oper.semAt_eq _ _ _ hnd]
 have post:∀(ed:Ending)(w':World),(∃u E',ed= .returned u∧RV E' v u∧RH E' hp' w'∧bG L nx' E'∧Ex hp nx E w hp' nx' E' w')→
  (match ed,w' with
   | .returned v,w''=>K (a.put o.dst v) w''
   | .panicked chain,w''=>Q (.panic chain) a w''
   | .outgrown,_=>LetsOut Q):=by
  rintro ed w' ⟨u,E',rfl,q1,q2,q3,q4⟩
  have hle:=q4.le hok.vf hL
  exact hK E' (a.put o.dst u) w' (hok.J5 hL hd q1 q2 q3 q4) (by rw[put_defers];exact hrf.mono hle) q4
 rcases h L E a w hL hok with⟨f,args,h1,h2⟩|⟨l,fn,tmps,asg,body,h1,h2⟩
 ·rw[h1]
  simp only[Oper.uponIn]
  exact⟨fun h=>(by cases h),CallsIn.mono (F:=Fr r) h2 post⟩
 ·rw[h1]
  simp only[Oper.uponIn]
  exact⟨fun h=>(by cases h),RoundIn.mono (F:=Fr r) h2 post⟩
theorem Db(hI:qI P gl ih)(hG:tO P gl hf){o:Oper}{sz:Nat}{tm:T V}{hp:T ah}{nx:Id}{df:V}{k:ir}{f:Operand}{args:List Operand}{R:Rs}(hc:cR P gl o.op= .val f args)(hd:lr sz o.dst=true)(h:G6 P hf ih o.dst tm hp nx df k f args=some R):
 ∃tm' hp' nx' df',k tm' hp' nx' df'=some R∧jo P gl o sz tm hp nx df tm' hp' nx' df':=by
 obtain⟨fv,h1,h2⟩:=aa h
 obtain⟨x,h3,h4⟩:=aa h2
 obtain⟨c,c1,c2,c3⟩:=rJ hc
 subst c3
 have hnd:∀c,o.op≠.defer c:=by rw[c1];intro c hc;cases hc
 rcases jV h4 with⟨g,fs,cs,rfl,h5⟩|⟨b,rfl,h5⟩
 ·rw[jZ] at h5
  obtain⟨v,hp',nx',h6,q1,q2,q3⟩:=iO hI hG.Fk hG.hash hG.FX hG.ext h5
  rw[dV] at h6
  refine⟨_,_,_,_,h6,Bf hnd hd q2 ?_⟩
  intro L E a w hL hok
  left
  have hfv:=aJ hok.vt h1
  simp only[RV] at hfv
  obtain⟨f',c',hev,r1,r2⟩:=hfv
  have hv:=r1.app ((dU hok.vt h3).app r2)
  have hcall:=q3 L E w _ hL hv hok.vh hok.vf hok.vg
  refine⟨g,_,?_,hcall⟩
  simp only[execOp,c1,resolve,c2,hev,Sem.run_bind,Deferred.ofValue,Sem.run_pure,Result.andThen_ok,invoke]
  rw[q1]
  congr 2
  apply Array.ext'
  simp
 ·obtain⟨v,hp',nx',h6,q2,q3⟩:=rI hI h5
  rw[dV] at h6
  refine⟨_,_,_,_,h6,Bf hnd hd q2 ?_⟩
  intro L E a w hL hok
  right
  have hfv:=aJ hok.vt h1
  simp only[RV] at hfv
  obtain⟨l,hg,hev⟩:=hfv
  obtain⟨fn,tmps,asg,body,y1,y2⟩:=q3 L E w _ l hL (dU hok.vt h3) hok.vh hok.vf hok.vg hg
  refine⟨l,fn,tmps,asg,body,?_,y2⟩
  simp only[execOp,c1,resolve,c2,hev,Sem.run_bind,Deferred.ofValue,Sem.run_pure,Result.andThen_ok,invoke,Array.empty_append]
  have:(c.args.toList.map a.eval).toArray=c.args.map a.eval:=by apply Array.ext';simp
  rw[←this];exact y1
theorem va(name:String):∀l:List Method,dF l name=l.find? (fun m=>m.name==name)
 |[]=>rfl
 |
  m::l=>by
  show@Bool.rec (fun _=>Option Method) (dF l name) (some m) (m.name==name)=_
  rw[List.find?_cons,va name l]
  cases m.name==name<;>rfl
theorem pZ{t:TypeId}(h:xU P t=some none):∃d,P.underlying t=some d∧∀e,d≠.pointer e:=by
 obtain⟨d,hd,h1⟩:=aa h
 refine⟨d,hd,fun e he=>?_⟩
 subst he;cases h1
theorem wU{t e:TypeId}(h:xU P t=some (some e)):P.underlying t=some (.pointer e):=by
 obtain⟨d,hd,h1⟩:=aa h
 cases d<;>cases h1
 exact hd
theorem rL{E:Env}{w:World}{hp:T ah}{hb:Id→Option ah}(hH:RH E hp w)(hB:∀b k,hb b=some k→get b hp=some k){t:TypeId}{v:V}{u:Value}{name:String}{g:FuncId}{y:V}(hv:RV E v u)(h:m9 P hb t v name=some (g,y))(n:Nat):
 ∃z,(method (n+1) t u name).run P w= .ok (g,z) w∧RV E y z:=by
 obtain⟨i,hi,h1⟩:=aa h
 obtain⟨m,hm,h2⟩:=aa h1
 obtain⟨fp,hfp,h3⟩:=aa h2
 obtain⟨g0,pr⟩:=fp
 rw[va] at hm
 have hm':i.methods.find? (fun m=>m.name==name)=some m:=by rw[←Array.find?_toList];exact hm
 unfold method
 simp only[Sem.run_bind,iQ hi,Result.andThen_ok,hm']
 cases hpath:m.path.toList with
 |
  nil=>
  rw[hpath] at h3
  have hem:m.path.isEmpty=true:=by
   have:m.path= #[]:=Array.ext' hpath
   rw[this];rfl
  simp only[follow,Sem.run_pure,Result.andThen_ok,hfp,Sem.run_bind,hem,if_true]
  obtain⟨e,he,h4⟩:=aa h3
  cases e with
  |
   none=>
   obtain⟨d,hd,hno⟩:=pZ he
   cases pr with
   |true=>cases h4
   |
    false=>
    cases h4
    refine⟨u,?_,hv⟩
    simp only[receiverAt,Sem.run_bind,au hd,Result.andThen_ok]
    cases d<;>first|rfl|exact absurd rfl (hno _)
  |
   some e=>
   have hd:=wU he
   cases pr with
   |
    true=>
    cases h4
    refine⟨u,?_,hv⟩
    simp only[receiverAt,Sem.run_bind,au hd,Result.andThen_ok]
    rfl
   |false=>cases h4
 |
  cons s rest=>
  rw[hpath] at h3
  cases rest with
  |cons _ _=>cases h3
  |
   nil=>
   have hem:m.path.isEmpty=false:=by
    cases hq:m.path.isEmpty with
    |false=>rfl
    |
     true=>
     have:m.path= #[]:=by simpa using hq
     rw[this] at hpath;cases hpath
   obtain⟨hder,h4⟩:=af h3
   obtain⟨p,hp',h5⟩:=aa h4
   obtain⟨d,hd,h6⟩:=aa h5
   cases d with
   |
    struct fs=>
    obtain⟨f,hfld,h7⟩:=aa h6
    obtain⟨e,he,h8⟩:=aa h7
    obtain⟨d',hd',k1⟩:=aa hp'
    rw[hd] at hd';cases hd'
    obtain⟨f',hf',k2⟩:=aa k1
    rw[hfld] at hf';cases hf'
    obtain⟨j,hj,k3⟩:=aa k2
    obtain⟨k4,k5⟩:=af k3
    obtain⟨b,o,hve,k6⟩:=dQ k5
    subst hve
    rw[ca] at k6
    cases k6
    simp only[RV] at hv
    obtain⟨gb,hgb,rfl⟩:=hv
    rw[di] at hfld
    have hfld':fs[s.index]? =some f:=by simpa using hfld
    have hne:¬j.size=0:=fun e=>by rw[e] at k4;cases k4
    have hfol:(follow [s] t (.val (.pointer (some ⟨gb,o,none⟩)))).run P w= .ok (f.type,.var ⟨gb,o+f.offset,none⟩) w:=by
     simp[follow,au hd,hfld',hder,Place.get,asAddr,fieldPlace,aS hj,hne,dI]
    simp only[hfol,Sem.run_pure,Result.andThen_ok,hfp,Sem.run_bind,hem,Bool.false_eq_true,if_false]
    have hptr:RV E (.p b (Nat.add o f.offset)) (.pointer (some ⟨gb,o+f.offset,none⟩)):=by simp only[RV];exact⟨gb,hgb,rfl⟩
    cases e with
    |some e=>cases h8
    |
     none=>
     obtain⟨dt,hdt,hno⟩:=pZ he
     cases pr with
     |
      true=>
      cases h8
      refine⟨_,?_,hptr⟩
      simp only[receiverAt,Sem.run_bind,au hdt,Result.andThen_ok]
      cases dt<;>first|rfl|exact absurd rfl (hno _)
     |
      false=>
      obtain⟨z,hz,h9⟩:=aa (show(bO (du P hb f.type (.p b (Nat.add o f.offset))) fun x=>some (g0,x))=some (g,y) from h8)
      cases h9
      obtain⟨zv,z1,z2⟩:=gC (P:=P) (w:=w) hH hB hptr hz
      refine⟨zv,?_,z2⟩
      have z1':(loadVar f.type ⟨gb,o+f.offset,none⟩).run P w= .ok zv w:=by
       simpa[Instr.loadAt,Instr.sureAddr] using z1
      simp only[receiverAt,Sem.run_bind,au hdt,Result.andThen_ok]
      cases dt<;>first|(simp only[Place.get,z1',Result.andThen_ok];done)|exact absurd rfl (hno _)
   |_=>cases h6
theorem Dc(hI:qI P gl ih)(hG:tO P gl hf){o:Oper}{sz:Nat}{tm:T V}{hp:T ah}{nx:Id}{df:V}{k:ir}{f:Operand}{name:String}{args:List Operand}{R:Rs}(hc:cR P gl o.op= .inv f name args)(hd:lr sz o.dst=true)(h:G7 P hf ih o.dst tm hp nx df k f name args=some R):
 ∃tm' hp' nx' df',k tm' hp' nx' df'=some R∧jo P gl o sz tm hp nx df tm' hp' nx' df':=by
 obtain⟨rv,h1,h2⟩:=aa h
 obtain⟨x,h3,h4⟩:=aa h2
 obtain⟨c,c1,c2,c3⟩:=rK hc
 subst c3
 have hnd:∀c,o.op≠.defer c:=by rw[c1];intro c hc;cases hc
 rcases lX h4 with⟨t,v,rfl,h5⟩|⟨_,h5⟩
 ·obtain⟨fx,hfx,h6⟩:=aa h5
  obtain⟨g,y⟩:=fx
  obtain⟨v',hp',nx',h7,q1,q2,q3⟩:=iO hI hG.Fk hG.hash hG.FX hG.ext h6
  rw[dV] at h7
  refine⟨_,_,_,_,h7,Bf hnd hd q2 ?_⟩
  intro L E a w hL hok
  left
  have hrv:=aJ hok.vt h1
  simp only[RV] at hrv
  obtain⟨u,hev,hu⟩:=hrv
  have hmd:Made.depth≥1:=by decide
  obtain⟨n,hn⟩:∃n,P.types.size+Made.depth=n+1:=⟨P.types.size+(Made.depth -1),by omega⟩
  obtain⟨z,z1,z2⟩:=rL (P:=P) (w:=w) hok.vh (fun _ _ hb=>hb) hu hfx n
  have hcall:=q3 L E w (z::c.args.toList.map a.eval) hL (aD.aw.2 ⟨_,_,rfl,z2,dU hok.vt h3⟩) hok.vh hok.vf hok.vg
  refine⟨g,_,?_,hcall⟩
  simp only[execOp,c1,resolve,c2,Sem.run_bind,Sem.run_pure,Result.andThen_ok,invoke,hev]
  have e1:(#[Value.iface t u]++c.args.map a.eval)[0]? =some (.iface t u):=by rw[Array.getElem?_append];rfl
  have e2:(#[Value.iface t u]++c.args.map a.eval).extract 1 (#[Value.iface t u]++c.args.map a.eval).size=c.args.map a.eval:=by
   apply Array.ext'
   simp
   apply List.take_of_length_le
   simp
  simp only[e1,e2,callMethod,Sem.run_bind,run_program,Result.andThen_ok]
  rw[hn,z1]
  simp only[Result.andThen_ok]
  rw[q1]
  congr 2
  apply Array.ext'
  simp
 ·cases h5
theorem Dd{o:Oper}{sz:Nat}{tm:T V}{hp:T ah}{nx:Id}{df:V}{k:ir}{f:Operand}{args:List Operand}{R:Rs}(hc:cR P gl o.op= .uP f args)(h:G8 o.dst tm hp nx df k f args=some R):
 ∃tm' hp' nx' df',k tm' hp' nx' df'=some R∧jo P gl o sz tm hp nx df tm' hp' nx' df':=by
 obtain⟨fv,h1,h2⟩:=aa h
 obtain⟨x,h3,h4⟩:=aa h2
 obtain⟨hch,h5⟩:=af h4
 obtain⟨c,c1,c2,c3⟩:=zj hc
 subst c3
 rcases jV h5 with⟨g,fs,cs,rfl,h6⟩|⟨_,_,h6⟩
 ·rcases bC h6 with⟨rfl,h7⟩|⟨_,_,_,h7⟩
  ·rw[dV] at h7
   refine⟨_,_,_,_,h7,Nat.le_refl _,?_⟩
   intro r L E a w hL hok hrf K Q hK
   have hrf:r=none∧RD E df a.defers:=by
    rcases hrf with hrf|⟨b,l,hb,_⟩
    ·exact hrf
    ·rw[hb] at hch;cases hch
   obtain⟨rfl,hrd⟩:=hrf
   have hfv:=aJ hok.vt h1
   simp only[RV] at hfv
   obtain⟨f',c',hev,r1,r2⟩:=hfv
   have hnil:=dU hok.vt h3
   rw[aD.bL] at hnil
   have hargs:c.args.map a.eval= #[]:=by apply Array.ext';simpa using hnil
   unfold Oper.wpIn
   refine⟨fun _ _=>trivial,?_⟩
   rw[show(Fr none).round=none from rfl,Oper.semAt_none]
   have hrun:(execOp a.eval o).run P w= .ok (.defer {target:=.fn (.func g) c',args:=f'}) w:=by
    simp only[execOp,c1,resolve,c2,hev,Sem.run_bind,Deferred.ofValue,Sem.run_pure,Result.andThen_ok,hargs,Array.append_empty]
   rw[hrun]
   simp only[Oper.uponIn]
   refine hK E _ w ⟨Bd (a:={a with defers:={target:=.fn (.func g) c',args:=f'}::a.defers}) hok.vt,by rw[fV];exact hok.vs,hok.vh,hok.vf,hok.vg⟩ (Or.inl ⟨rfl,?_⟩) (Ex.refl _ _ _ _)
   rw[put_defers]
   exact⟨_,_,f',c',rfl,rfl,r1,r2,hrd⟩
  ·cases h7
 ·cases h6
theorem Fl(hI:qI P gl ih)(hG:tO P gl hf){o:Oper}{sz:Nat}{tm:T V}{hp:T ah}{nx:Id}{df:V}{k:ir}{R:Rs}(hd:lr sz o.dst=true)(h:G9 P gl hf ih o tm hp nx df k=some R):
 ∃tm' hp' nx' df',k tm' hp' nx' df'=some R∧jo P gl o sz tm hp nx df tm' hp' nx' df':=by
 unfold G9 at h
 cases hc:cR P gl o.op with
 |op f=>rw[hc] at h;exact Fi hc hd h
 |blt b args ts=>rw[hc] at h;exact C1 hc hd h
 |val f args=>rw[hc] at h;exact Db hI hG hc hd h
 |inv r name args=>rw[hc] at h;exact Dc hI hG hc hd h
 |uP f args=>rw[hc] at h;exact Dd hc h
 |no=>rw[hc] at h;cases h
theorem Fm(hI:qI P gl ih)(hG:tO P gl hf){id:Nat}{ops:Array Oper}{sz:Nat}{tm:T V}{hp:T ah}{nx:Id}{df:V}{x:Xt}{tm':T V}{hp':T ah}{nx':Id}{df':V}(h:ze P gl hf ih sz ops.toList ops.toList tm hp nx df=some (.mk x tm' hp' nx' df')):
 dM P gl (.region id ops false) sz tm hp nx df x tm' hp' nx' df':=by
 obtain⟨i1,i2,i3⟩:=tg (ops:=ops) (fun o tm hp nx df k R hd hh=>Fl hI hG hd hh) ops.toList 0 rfl tm hp nx df x tm' hp' nx' df' h
 refine⟨i2,?_⟩
 intro r L E a w hL hok hrf Q hQ
 subst i1
 refine wpIn_region ?_
 have:=i3 r L E a w hL hok hrf Q hQ
 simpa using this
end
end Go.Cm
