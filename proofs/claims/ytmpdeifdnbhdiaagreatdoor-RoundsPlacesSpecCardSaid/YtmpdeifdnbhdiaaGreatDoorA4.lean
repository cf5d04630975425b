/- The machines: what it means to be walked or run, part 4. No condition. -/
import Derived.Test.YtmpdeifdnbhdiaaGreatDoorA3
import Derived.ChangeKeysEq
import Derived.Laws.StructEq
import Derived.Laws.BytesString
import Derived.MapKept
import Derived.RangeFuncNested
namespace Go.Cm
section
variable{P:Program} {E:Env} {w:World}
noncomputable def Jq(x:V):V→Option Bool:=
 @V.rec (fun _=>V→Option Bool) (fun _ _=>none) (fun _ _ _=>none) (fun _ _=>none) (fun _ _ _=>none) (fun _=>none) (fun _ _ _ _ _=>none) (fun _ _ _ _ _=>none) (fun _=>none) (fun _=>none) (fun _ _=>none) (fun _=>none) (fun _ _ _ _ _ _=>none) (fun _ _=>none) (fun _=>none) (fun _ _ _ _=>none) (fun _=>none) (fun _ _ _=>none) (fun _ _ _=>none) (fun _=>none)
  (fun y=>y.split (some true) (fun _ _=>none) none)
  (fun a _ _ ih y=>y.split none (fun b m=>a.int fun k i=>b.int fun k' j=>bf (xE k k') (@Bool.rec (fun _=>Option Bool) (some false) (ih m) (uU i j))) none) x
theorem bF{α:Type}{x:V}{n:Option α}{f:V→V→Option α}{y:α}(h:x.split n f none=some y):(x= .nil∧n=some y)∨∃a l,x= .cons a l∧f a l=some y:=by
 cases x<;>first|exact Or.inl ⟨rfl,h⟩|exact Or.inr ⟨_,_,rfl,h⟩|cases h
theorem nS{d:Nat}{e:TypeId}{k0 k:IntKind}{a b:Int}(he:P.underlying e=some (.int k0)):(Op.equalIn (d+1) e (.int k a) (.int k b)).run P w= .ok (uU a b) w:=by
 simp[Op.equalIn,ar he,jU]
theorem Jr{d:Nat}{e:TypeId}{k0:IntKind}(he:P.underlying e=some (.int k0)){xs ys:Array Value}:∀{l m:V}{i n:Nat}{b:Bool},aH E l (xs.toList.drop i)→aH E m (ys.toList.drop i)→mR l=n→Jq l m=some b→
 (Op.eqItems (d+1) e 1 xs ys (List.range' i n)).run P w= .ok b w:=by
 intro l
 induction l with
 |
  nil=>
  intro m i n b h1 h2 hn h
  have hn:0=n:=hn
  subst hn
  rcases bF (show m.split (some true) (fun _ _=>none) none=some b from h) with⟨rfl,h⟩|⟨_,_,_,h⟩
  ·cases h;simp[Op.eqItems]
  ·cases h
 |
  cons a l _ ih=>
  intro m i n b h1 h2 hn h
  have hn:Nat.succ (mR l)=n:=hn
  subst hn
  obtain⟨c,m',rfl,h⟩:=bq (show m.split none (fun b' m'=>a.int fun k i=>b'.int fun k' j=>bf (xE k k') (@Bool.rec (fun _=>Option Bool) (some false) (Jq l m') (uU i j))) none=some b from h)
  obtain⟨k,x,rfl,h⟩:=aT h
  obtain⟨k',y,rfl,h⟩:=aT h
  obtain⟨hk,hz⟩:=ah h
  have:=gY hk;subst this
  obtain⟨v,r,e1,v1,v2⟩:=aH.aw.1 h1
  obtain⟨u,s,e2,u1,u2⟩:=aH.aw.1 h2
  simp only[RV] at v1 u1
  subst v1;subst u1
  have hx:xs[i]? =some (.int k x):=by
   have:=congrArg (·[0]?) e1
   simpa using this
  have hy:ys[i]? =some (.int k y):=by
   have:=congrArg (·[0]?) e2
   simpa using this
  have hr:r=xs.toList.drop (i+1):=by
   have:=congrArg (List.drop 1) e1
   simpa using this.symm
  have hs:s=ys.toList.drop (i+1):=by
   have:=congrArg (List.drop 1) e2
   simpa using this.symm
  subst hr;subst hs
  rw[List.range'_succ]
  simp only[Op.eqItems,Nat.mul_one]
  have p1:(part e xs i).run P w= .ok (.int k x) w:=by simp[part,dq he,iO,hx]
  have p2:(part e ys i).run P w= .ok (.int k y) w:=by simp[part,dq he,iO,hy]
  simp only[Sem.run_bind,p1,p2,Result.andThen_ok,nS he]
  cases hq:uU x y with
  |
   false=>
   rw[hq] at hz
   cases(show some false=some b from hz)
   simp
  |
   true=>
   rw[hq] at hz
   have:=ih v2 u2 rfl (show Jq l m'=some b from hz)
   simpa using this
 |_=>intro m i n b h1;simp[aH] at h1
noncomputable def Js(x:V):V→Option Bool:=
 @V.rec (fun _=>V→Option Bool) (fun _ _=>none) (fun _ _ _=>none) (fun _ _=>none) (fun _ _ _=>none) (fun _=>none) (fun _ _ _ _ _=>none) (fun _ _ _ _ _=>none) (fun _=>none) (fun _=>none) (fun _ _=>none) (fun _=>none) (fun _ _ _ _ _ _=>none) (fun _ _=>none) (fun _=>none) (fun _ _ _ _=>none) (fun _=>none) (fun _ _ _=>none) (fun _ _ _=>none) (fun _=>none)
  (fun y=>y.split (some true) (fun _ _=>none) none)
  (fun a _ _ ih y=>y.split none (fun b m=>a.int fun k i=>b.int fun k' j=>bf (xE k k') (bO (ih m) fun r=>some (@Bool.rec (fun _=>Bool) false r (uU i j)))) none) x
inductive PI:List Value→List Value→Bool→Prop
 |nil:PI [] [] true
 |cons {k:IntKind} {i j:Int} {xs ys:List Value} {r:Bool}:PI xs ys r→PI (.int k i::xs) (.int k j::ys) (uU i j&&r)
theorem zq{xs ys:List Value}{b:Bool}:∀{l m:V},aH E l xs→aH E m ys→Js l m=some b→PI xs ys b:=by
 intro l
 induction l generalizing xs ys b with
 |
  nil=>
  intro m h1 h2 h
  rcases bF (show m.split (some true) (fun _ _=>none) none=some b from h) with⟨rfl,h⟩|⟨_,_,_,h⟩
  ·cases h;rw[aH.bL] at h1 h2;subst h1;subst h2;exact .nil
  ·cases h
 |
  cons a l _ ih=>
  intro m h1 h2 h
  obtain⟨c,m',rfl,g1⟩:=bq (show m.split none (fun b' m'=>a.int fun k i=>b'.int fun k' j=>bf (xE k k') (bO (Js l m') fun r=>some (@Bool.rec (fun _=>Bool) false r (uU i j)))) none=some b from h)
  obtain⟨k,x,rfl,g2⟩:=aT g1
  obtain⟨k',y,rfl,g3⟩:=aT g2
  obtain⟨hk,g4⟩:=ah g3
  have:=gY hk;subst this
  obtain⟨r',g5,g6⟩:=aa g4
  obtain⟨v,r,rfl,v1,v2⟩:=aH.aw.1 h1
  obtain⟨u,s,rfl,u1,u2⟩:=aH.aw.1 h2
  simp only[RV] at v1 u1
  subst v1;subst u1
  have e:b=(uU x y&&r'):=by
   have:=Option.some.inj g6
   rw[←this]
   cases uU x y<;>rfl
  subst e
  exact .cons (ih v2 u2 g5)
 |_=>intro m h1;simp[aH] at h1
theorem PI.cut{xs ys:List Value}{b:Bool}(h:PI xs ys b):∀n,∃b1 b2,PI (xs.take n) (ys.take n) b1∧PI (xs.drop n) (ys.drop n) b2∧b=(b1&&b2):=by
 induction h with
 |nil=>intro n;exact⟨true,true,by simpa using .nil,by simpa using .nil,rfl⟩
 |
  @cons k i j xs ys r h ih=>
  intro n
  cases n with
  |zero=>exact⟨true,_,.nil,.cons h,by simp⟩
  |
   succ n=>
   obtain⟨b1,b2,h1,h2,h3⟩:=ih n
   exact⟨_,b2,.cons h1,h2,by rw[h3,Bool.and_assoc]⟩
theorem PI.same{xs ys:List Value}{b:Bool}(h:PI xs ys b):b=true→xs=ys:=by
 induction h with
 |nil=>intro _;rfl
 |
  @cons k i j xs ys r h ih=>
  intro hb
  obtain⟨h1,h2⟩:=(Bool.and_eq_true _ _).mp hb
  rw[jU] at h1
  have:i=j:=by simpa using h1
  subst this;rw[ih h2]
theorem PI.ints{xs ys:List Value}{b:Bool}(h:PI xs ys b):∀v∈xs,∃k n,v= .int k n:=by
 induction h with
 |nil=>intro v hv;cases hv
 |
  cons h ih=>
  intro v hv
  rcases List.mem_cons.1 hv with e|e
  ·exact⟨_,_,e⟩
  ·exact ih v e
noncomputable def uw(k:TypeId→Option Nat)(fs:List Field):Nat→Option Nat:=
 @List.rec Field (fun _=>Nat→Option Nat) (fun o=>some o) (fun f _ ih o=>bf (cJ (f.name== "_")) (bf (Nat.beq f.offset o) (bO (k f.type) fun n=>ih (o+n)))) fs
noncomputable def fk(P:Program)(n:Nat):TypeId→Option Nat:=
 @Nat.rec (fun _=>TypeId→Option Nat) (fun _=>none) (fun _ ih t=>bO (P.underlying t) fun d=>match d with
  | .int _=>some 1
  | .struct fs=>bf (cJ (P.stoodInHeld t)) (bO (uw ih fs.toList 0) fun s=>bO (P.info? t) fun i=>bf (Nat.beq i.size s) (some s))
  |_=>none) n
def KV(P:Program)(t:TypeId)(v:Value)(xs:List Value):Prop:=
 ∃d,P.underlying t=some d∧((iO d=true∧v= .agg xs.toArray)∨(iO d=false∧xs= [v]))
theorem qK{n s:Nat}{t:TypeId}(h:fk P n t=some s):∃n',n=n'+1∧((∃k,P.underlying t=some (.int k)∧s=1)∨∃fs i,P.underlying t=some (.struct fs)∧P.stoodInHeld t=false∧uw (fk P n') fs.toList 0=some s∧P.info? t=some i∧i.size=s):=by
 cases n with
 |zero=>cases h
 |
  succ n=>
  refine⟨n,rfl,?_⟩
  obtain⟨d,hd,h⟩:=aa (show(bO (P.underlying t) fun d=>match d with
   | .int _=>some 1
   | .struct fs=>bf (cJ (P.stoodInHeld t)) (bO (uw (fk P n) fs.toList 0) fun s=>bO (P.info? t) fun i=>bf (Nat.beq i.size s) (some s))
   |_=>none)=some s from h)
  cases d with
  |int k=>cases h;exact Or.inl ⟨k,hd,rfl⟩
  |
   struct fs=>
   obtain⟨h1,h⟩:=ah h
   obtain⟨s',h2,h⟩:=aa h
   obtain⟨i,h3,h⟩:=aa h
   obtain⟨h4,h⟩:=ah h
   cases h
   exact Or.inr ⟨fs,i,hd,by rw[dQ] at h1;simpa using h1,h2,h3,bg h4⟩
  |_=>cases h
theorem zr{n s off:Nat}{t:TypeId}{cs:Array Value}(h:fk P n t=some s)(hl:off+s≤cs.size):∃v,(part t cs off).run P w= .ok v w∧KV P t v ((cs.toList.drop off).take s):=by
 obtain⟨n',rfl,⟨k,hd,rfl⟩|⟨fs,i,hd,h1,h2,h3,rfl⟩⟩:=qK h
 ·have Sg:off<cs.size:=by omega
  refine⟨cs[off],by simp[part,dq hd,iO,Sg],_,hd,Or.inr ⟨rfl,?_⟩⟩
  rw[List.drop_eq_getElem_cons (by simpa using Sg)];simp
 ·refine⟨.agg (cs.extract off (off+i.size)),by simp[part,dq hd,iO,aU h3],_,hd,Or.inl ⟨rfl,?_⟩⟩
  congr 1
  apply Array.ext'
  rw[Array.toList_extract,List.extract_eq_take_drop,Nat.add_sub_cancel_left]
theorem nT{k:TypeId→Option Nat}{f:Field}{fs:List Field}{o e:Nat}(h:uw k (f::fs) o=some e):f.name≠ "_" ∧f.offset=o∧∃n,k f.type=some n∧uw k fs (o+n)=some e:=by
 obtain⟨h1,h⟩:=ah (show bf (cJ (f.name== "_")) (bf (Nat.beq f.offset o) (bO (k f.type) fun n=>uw k fs (o+n)))=some e from h)
 obtain⟨h2,h⟩:=ah h
 obtain⟨n,h3,h⟩:=aa h
 rw[dQ] at h1
 exact⟨by simpa using h1,bg h2,n,h3,h⟩
theorem ux{k:TypeId→Option Nat}:∀{fs:List Field}{o e:Nat},uw k fs o=some e→o≤e
 |[],o,e,h=>by cases(show some o=some e from h);exact Nat.le_refl _
 |
  f::fs,o,e,h=>by
  obtain⟨_,_,n,_,h⟩:=nT h
  exact Nat.le_trans (Nat.le_add_right o n) (ux h)
theorem pB{c:List Value}{o n e:Nat}(h:o+n≤e):((c.drop o).take (e -o)).take n=(c.drop o).take n∧((c.drop o).take (e -o)).drop n=(c.drop (o+n)).take (e -(o+n)):=by
 constructor
 ·rw[List.take_take,Nat.min_eq_left (by omega)]
 ·rw[List.drop_take,List.drop_drop]
  congr 1;omega
theorem zt{d:Nat}{k:TypeId→Option Nat}{cx cy:Array Value}
 (hp:∀t s off(cs:Array Value),k t=some s→off+s≤cs.size→∃v,(part t cs off).run P w= .ok v w∧KV P t v ((cs.toList.drop off).take s))
 (hq:∀t s vx vy xs ys b,k t=some s→KV P t vx xs→KV P t vy ys→xs.length=s→PI xs ys b→(Op.equalIn d t vx vy).run P w= .ok b w):
 ∀{fs:List Field}{o e:Nat}{b:Bool},uw k fs o=some e→e≤cx.size→e≤cy.size→PI ((cx.toList.drop o).take (e -o)) ((cy.toList.drop o).take (e -o)) b→(Op.eqFields d cx cy fs).run P w= .ok b w
 |
  [],o,e,b,h,hx,hy,hb=>by
  cases(show some o=some e from h)
  simp only[Nat.sub_self,List.take_zero] at hb
  cases hb
  simp[Op.eqFields]
 |
  f::fs,o,e,b,h,hx,hy,hb=>by
  obtain⟨h1,h2,n,h3,h4⟩:=nT h
  have hle:=ux h4
  obtain⟨b1,b2,g1,g2,rfl⟩:=hb.cut n
  rw[(pB hle).1,(pB hle).1] at g1
  rw[(pB hle).2,(pB hle).2] at g2
  obtain⟨vx,p1,p2⟩:=hp f.type n o cx h3 (by omega)
  obtain⟨vy,p3,p4⟩:=hp f.type n o cy h3 (by omega)
  have heq:=hq f.type n vx vy _ _ b1 h3 p2 p4 (by simp;omega) g1
  have hrest:=zt hp hq h4 hx hy g2
  simp only[Op.eqFields,Sem.run_ite,if_pos h1,Sem.run_bind,h2,p1,p3,Result.andThen_ok,heq]
  cases b1 with
  |false=>simp
  |true=>simp only[Bool.not_true,Bool.false_eq_true,if_false,hrest,Bool.true_and]
theorem PI.len{xs ys:List Value}{b:Bool}(h:PI xs ys b):xs.length=ys.length:=by
 induction h with
 |nil=>rfl
 |cons _ ih=>simp[ih]
theorem MQ(d:Nat):∀(n:Nat)(t:TypeId)(s:Nat)(vx vy:Value)(xs ys:List Value)(b:Bool),fk P n t=some s→KV P t vx xs→KV P t vy ys→xs.length=s→PI xs ys b→(Op.equalIn (d+n) t vx vy).run P w= .ok b w:=by
 intro n
 induction n with
 |zero=>intro t s vx vy xs ys b h;cases h
 |
  succ n ih=>
  intro t s vx vy xs ys b h hx hy hl hb
  obtain⟨n',e,hh⟩:=qK h
  cases e
  obtain⟨d1,hd1,hx⟩:=hx
  obtain⟨d2,hd2,hy⟩:=hy
  rw[hd1] at hd2;cases hd2
  rcases hh with⟨k,hd,rfl⟩|⟨fs,i,hd,h1,h2,h3,rfl⟩
  ·rw[hd1] at hd;cases hd
   rcases hx with⟨hx,_⟩|⟨_,rfl⟩
   ·cases hx
   rcases hy with⟨hy,_⟩|⟨_,rfl⟩
   ·cases hy
   cases hb with
   |
    cons hb=>
    cases hb
    rw[Bool.and_true]
    exact nS hd1
  ·rw[hd1] at hd;cases hd
   rcases hx with⟨_,rfl⟩|⟨hx,_⟩
   rotate_left
   ·cases hx
   rcases hy with⟨_,rfl⟩|⟨hy,_⟩
   rotate_left
   ·cases hy
   have hf:P.fieldsOf t=fs:=by simp[Program.fieldsOf,hd1]
   have hly:=hb.len
   have:=run_equalIn_struct (P:=P) w (d+n) t xs.toArray ys.toArray (by rw[hf];exact hd1) h1
   rw[show d+(n+1)=d+n+1 from rfl,this,hf]
   refine zt (fun t s off cs ht hl=>zr ht hl) (fun t s vx vy xs ys b=>ih t s vx vy xs ys b) h2 (by simp;omega) (by simp;omega) ?_
   have e1:(xs.toArray.toList.drop 0).take (i.size -0)=xs:=by rw[←hl];simp
   have e2:(ys.toArray.toList.drop 0).take (i.size -0)=ys:=by rw[←hl,hly];simp
   rw[e1,e2];exact hb
noncomputable def l4(P:Program)(t:TypeId)(x y:V):Option Bool:=
 bO (
  P.underlying t) fun d=>match d with
  | .int _=>x.int fun k a=>y.int fun k' b=>bf (xE k k') (some (uU a b))
  | .string=>x.str fun a=>y.str fun b=>some (DV a b)
  | .bool=>x.bool fun a=>y.bool fun b=>some (@Bool.rec (fun _=>Bool) (cJ b) b a)
  |
   .array n e=>bO (P.underlying e) fun de=>match de with
   | .int _=>bO (P.info? e) fun i=>bf (Nat.beq i.size 1) (x.ag fun l=>y.ag fun m=>bf (Nat.beq (mR l) n) (Jq l m))
   |_=>none
  | .struct _=>bO (fk P 3 t) fun s=>x.ag fun l=>y.ag fun m=>bf (Nat.beq (mR l) s) (Js l m)
  |_=>none
theorem uy{d:Nat}{t:TypeId}{x y:V}{vx vy:Value}{b:Bool}(hx:RV E x vx)(hy:RV E y vy)(h:l4 P t x y=some b):(Op.equalIn (d+3) t vx vy).run P w= .ok b w:=by
 obtain⟨dd,hd,h_1⟩:=aa h
 cases dd with
 |
  int k0=>
  obtain⟨k,a,rfl,h_2⟩:=aT h_1
  obtain⟨k',c,rfl,h_3⟩:=aT h_2
  obtain⟨hk,h_4⟩:=ah h_3
  have:=gY hk;subst this
  cases h_4
  simp only[RV] at hx hy
  subst hx;subst hy
  exact nS hd
 |
  string=>
  obtain⟨a,rfl,h_5⟩:=dg h_1
  obtain⟨c,rfl,h_6⟩:=dg h_5
  cases h_6
  simp only[RV] at hx hy
  obtain⟨h1,rfl⟩:=hx
  obtain⟨h2,rfl⟩:=hy
  have:((eu a).toList==(eu c).toList)=DV a c:=by
   rw[om,jV,jV]
   by_cases e:a=c
   ·subst e;simp
   ·simp only[e,decide_false]
    simpa using fun hh=>e (pG h1 h2 hh)
  rw[run_equalIn_string w (d+2) t _ _ hd,this]
 |
  bool=>
  obtain⟨a,rfl,h_7⟩:=cT h_1
  obtain⟨c,rfl,h_8⟩:=cT h_7
  cases h_8
  simp only[RV] at hx hy
  subst hx;subst hy
  rw[run_equalIn_bool' w (d+2) t _ _ hd]
  cases a<;>cases c<;>rfl
 |
  array n e=>
  obtain⟨de,he,h_9⟩:=aa h_1
  cases de with
  |
   int k0=>
   obtain⟨i,hi,h_10⟩:=aa h_9
   obtain⟨h1,h_11⟩:=ah h_10
   obtain⟨l,rfl,h_12⟩:=cC h_11
   obtain⟨m,rfl,h_13⟩:=cC h_12
   obtain⟨h2,h_14⟩:=ah h_13
   simp only[RV] at hx hy
   obtain⟨a,rfl,x1,x2⟩:=hx
   obtain⟨c,rfl,y1,y2⟩:=hy
   rw[run_equalIn_array w (d+2) a c hd hi]
   have hc:P.cellsOf e=1:=by simp[Program.cellsOf,hi,bg h1]
   rw[hc,List.range_eq_range']
   exact Jr he (i:=0) (by simpa using x1) (by simpa using y1) (bg h2) h_14
  |_=>cases h_9
 |
  struct fs=>
  obtain⟨s,hs,h_9⟩:=aa h_1
  obtain⟨l,rfl,h_10⟩:=cC h_9
  obtain⟨m,rfl,h_11⟩:=cC h_10
  obtain⟨h2,h_12⟩:=ah h_11
  simp only[RV] at hx hy
  obtain⟨a,rfl,x1,x2⟩:=hx
  obtain⟨c,rfl,y1,y2⟩:=hy
  have hlen:a.toList.length=s:=by have:=x1.len;rw[bg h2] at this;exact this.symm
  exact MQ d 3 t s (.agg a) (.agg c) a.toList c.toList b hs ⟨_,hd,Or.inl ⟨rfl,rfl⟩⟩ ⟨_,hd,Or.inl ⟨rfl,rfl⟩⟩ hlen (zq x1 y1 h_12)
 |_=>cases h_1
noncomputable def AL(op:BinOp)(b:Bool):Option V:=match op with
 | .eql=>some (.b b)
 | .neq=>some (.b (cJ b))
 |_=>none
noncomputable def zu(d:TypeDesc)(x y:V):Option Bool:=match d,x,y with
 | .slice _,.sl _ _ _ _,.ns=>some false
 | .slice _,.su _ _ _ _,.ns=>some false
 | .slice _,.ns,.ns=>some true
 | .slice _,.se,.ns=>some false
 | .func _ _ _,.fn _ _ _,.nf=>some false
 | .func _ _ _,.nf,.nf=>some true
 | .interface _,.FG _ _,.ni=>some false
 | .interface _,.ni,.ni=>some true
 | .map _ _,.m _,.nm=>some false
 | .map _ _,.nm,.nm=>some true
 | .pointer _,.p _ _,.np=>some false
 | .pointer _,.np,.np=>some true
 |_,_,_=>none
theorem Cs{dp:Nat}{t:TypeId}{d:TypeDesc}{x y:V}{vx vy:Value}{b:Bool}(hd:P.underlying t=some d)(hx:RV E x vx)(hy:RV E y vy)(h:zu d x y=some b):(Op.equalIn (dp+1) t vx vy).run P w= .ok b w:=by
 unfold zu at h
 split at h<;>first|(cases h;done)|skip
 all_goals
  cases h
  simp only[RV] at hx hy
  subst hy
  first
   |(subst hx;simp[Op.equalIn,ar hd];done)
   |(obtain⟨_,_,rfl⟩:=hx;simp[Op.equalIn,ar hd];done)
   |(obtain⟨_,rfl,_⟩:=hx;simp[Op.equalIn,ar hd];done)
   |(obtain⟨_,_,rfl,_⟩:=hx;simp[Op.equalIn,ar hd];done)
   |(obtain⟨_,_,_,rfl,_⟩:=hx;simp[Op.equalIn,ar hd];done)
def AM:Operand→Bool
 | .const _=>true
 |_=>false
noncomputable def dP(P:Program)(cst:Bool)(op:BinOp)(t:TypeId)(x y:V):Option V:=
 bf cst (bO (P.underlying t) fun d=>bO (zu d x y) fun b=>AL op b)
noncomputable def Il(P:Program)(op:BinOp)(t:TypeId)(x y:V):Option V:=
 bf (cJ (P.eqGuardType P.depth t)) (x.ag fun _=>y.ag fun _=>bO (l4 P t x y) fun b=>AL op b)
noncomputable def oM(P:Program)(cst:Bool)(op:BinOp)(t:TypeId)(x y:V):Option V:=
 @V.casesOn (fun _=>Option V) x (fun _=>y.bool fun _=>bO (l4 P t x y) fun b=>AL op b) (fun k a=>y.int fun k' b=>@Bool.rec (fun _=>Option V) (bf (xE k k') (xc op k a b)) (pH op k a b) (uY op)) (fun a=>y.str fun b=>zX op a b)
  (fun _ _=>dP P cst op t x y) (dP P cst op t x y) (fun _ _ _ _=>dP P cst op t x y) (fun _ _ _ _=>dP P cst op t x y) (dP P cst op t x y) (dP P cst op t x y) (fun _=>dP P cst op t x y) (dP P cst op t x y) (fun _ _ _=>dP P cst op t x y) (fun _=>none) (dP P cst op t x y) (fun _ _=>dP P cst op t x y) (dP P cst op t x y)
  (fun _=>Il P op t x y) (fun _=>none) none none (fun _ _=>none)
theorem jI{op:BinOp}{t:TypeId}{vx vy:Value}{b:Bool}{r:V}(h:AL op b=some r)(he:(Op.equal t vx vy).run P w= .ok b w)(h1:binOp .eql t vx vy=(do pure (.bool (←Op.equal t vx vy))))(h2:binOp .neq t vx vy=(do pure (.bool (!(←Op.equal t vx vy))))):∃v,(binOp op t vx vy).run P w= .ok v w∧RV E r v:=by
 cases op<;>simp only[AL] at h<;>cases h
 ·exact⟨.bool b,by rw[h1];simp[he],by simp only[RV]⟩
 ·exact⟨.bool (!b),by rw[h2];simp[he],by simp only[RV,dQ]⟩
theorem yh{cst:Bool}{op:BinOp}{t:TypeId}{x y r:V}{vx vy:Value}{ox oy:Operand}(hc:cst=true→AM ox=true∨AM oy=true)(hx:RV E x vx)(hy:RV E y vy)(h:dP P cst op t x y=some r):
 (eqGuard op t ox oy vx vy).run P w= .ok () w∧∃v,(binOp op t vx vy).run P w= .ok v w∧RV E r v:=by
 obtain⟨hc',h⟩:=ah h
 obtain⟨d,hd,h⟩:=aa h
 obtain⟨b,hb,h⟩:=aa h
 have he:=Cs (P:=P) (w:=w) (dp:=9999) hd hx hy hb
 have hcc:=hc hc'
 have gd:(eqGuard op t ox oy .nilIface .nilIface).run P w= .ok () w:=by
  unfold eqGuard
  rcases hcc with h0|h0
  ·cases ox<;>simp[AM] at h0
   split<;>simp
  ·cases oy<;>simp[AM] at h0
   split<;>simp
 unfold zu at hb
 split at hb<;>first|(cases hb;done)|skip
 all_goals
  cases hb
  simp only[RV] at hx hy
  subst hy
  first
   |(subst hx;exact⟨by first|exact gd|(unfold eqGuard;split<;>simp),jI h he rfl rfl⟩)
   |(obtain⟨_,_,rfl⟩:=hx;exact⟨by unfold eqGuard;split<;>simp,jI h he rfl rfl⟩)
   |(obtain⟨_,rfl,_⟩:=hx;exact⟨by unfold eqGuard;split<;>simp,jI h he rfl rfl⟩)
   |(obtain⟨_,_,rfl,_⟩:=hx;exact⟨by unfold eqGuard;split<;>simp,jI h he rfl rfl⟩)
   |(obtain⟨_,_,_,rfl,_⟩:=hx;exact⟨by unfold eqGuard;split<;>simp,jI h he rfl rfl⟩)
theorem qL{cst:Bool}{op:BinOp}{t:TypeId}{x y r:V}{vx vy:Value}{ox oy:Operand}(hc:cst=true→AM ox=true∨AM oy=true)(hx:RV E x vx)(hy:RV E y vy)(h:oM P cst op t x y=some r):
 (eqGuard op t ox oy vx vy).run P w= .ok () w∧∃v,(binOp op t vx vy).run P w= .ok v w∧RV E r v:=by
 cases x with
 |
  b a=>
  obtain⟨c,rfl,h_1⟩:=cT (show(y.bool fun _=>bO (l4 P t (.b a) y) fun b=>AL op b)=some r from h)
  obtain⟨b,hb,h_2⟩:=aa h_1
  have he:=uy (w:=w) (d:=9997) hx hy hb
  simp only[RV] at hx hy
  subst hx;subst hy
  exact⟨by unfold eqGuard;split<;>simp,jI h_2 he rfl rfl⟩
 |
  i k a=>
  obtain⟨k',c,rfl,h_3⟩:=aT (show(y.int fun k' b=>@Bool.rec (fun _=>Option V) (bf (xE k k') (xc op k a b)) (pH op k a b) (uY op))=some r from h)
  simp only[RV] at hx hy
  subst hx;subst hy
  refine⟨by unfold eqGuard;split<;>simp,?_⟩
  cases hs:uY op with
  |true=>rw[hs] at h_3;exact yw h_3
  |
   false=>
   rw[hs] at h_3
   obtain⟨hk,h_4⟩:=ah (show bf (xE k k') (xc op k a c)=some r from h_3)
   have:=gY hk;subst this
   exact Dl h_4
 |
  s a=>
  obtain⟨c,rfl,h_5⟩:=dg (show(y.str fun b=>zX op a b)=some r from h)
  simp only[RV] at hx hy
  obtain⟨h1,rfl⟩:=hx
  obtain⟨h2,rfl⟩:=hy
  exact⟨by unfold eqGuard;split<;>simp,Dm h1 h2 h_5⟩
 |
  agg l=>
  obtain⟨hg,h_6⟩:=ah (show Il P op t (.agg l) y=some r from h)
  obtain⟨l',e,h_7⟩:=cC h_6
  cases e
  obtain⟨m,rfl,h_8⟩:=cC h_7
  obtain⟨b,hb,h_9⟩:=aa h_8
  have he:=uy (w:=w) (d:=9997) hx hy hb
  simp only[RV] at hx hy
  obtain⟨a,rfl,x1,x2⟩:=hx
  obtain⟨c,rfl,y1,y2⟩:=hy
  have hg:P.eqGuardType P.depth t=false:=by rw[dQ] at hg;simpa using hg
  exact⟨run_eqGuard_agg w _ t ox oy a c hg,jI h_9 he rfl rfl⟩
 |yl b=>cases h
 |bU l=>cases h
 |un=>cases h
 |nil=>cases h
 |cons a l=>cases h
 |_=>exact yh hc hx hy h
end
end Go.Cm
namespace Go.Cm
noncomputable def Ct{α:Type}(p:Id):(Id→α)→α:=
 @List.rec Bool (fun _=>(Id→α)→α) (fun k=>k []) (fun b _ ih k=>ih fun l=>@Bool.rec (fun _=>α) (k (false::l)) (k (true::l)) b) p
theorem l5{α:Type}:∀(p:Id)(k:Id→α),Ct p k=k p
 |[],_=>rfl
 |
  b::p,k=>by
  show Ct p (fun l=>@Bool.rec (fun _=>α) (k (false::l)) (k (true::l)) b)=_
  rw[l5 p];cases b<;>rfl
noncomputable def dx{α β:Type}(v:Option α)(p:Id):T α→(T α→β)→β:=
 @List.rec Bool (fun _=>T α→(T α→β)→β) (fun t k=>@T.rec α (fun _=>β) (k (.n .e v .e)) (fun l _ r _ _=>k (.n l v r)) t)
  (fun b _ ih t k=>@T.rec α (fun _=>β) (@Bool.rec (fun _=>β) (ih .e fun x=>k (.n x none .e)) (ih .e fun x=>k (.n .e none x)) b)
   (fun l x r _ _=>@Bool.rec (fun _=>β) (ih l fun y=>k (.n y x r)) (ih r fun y=>k (.n l x y)) b) t) p
theorem bV{α β:Type}(v:Option α):∀(p:Id)(t:T α)(k:T α→β),dx v p t k=k (put v p t)
 |[],t,k=>by cases t<;>rfl
 |
  b::p,t,k=>by
  have ih:=fun t(k:T α→β)=>bV v p t k
  cases t with
  |e=>cases b<;>exact ih _ _
  |n l x r=>cases b<;>exact ih _ _
noncomputable def V.EB{α:Type}(x:V)(f:FuncId→V→V→Option α)(g:Id→Option α):Option α:=
 @V.casesOn (fun _=>Option α) x (fun _=>none) (fun _ _=>none) (fun _=>none) (fun _ _=>none) none (fun _ _ _ _=>none) (fun _ _ _ _=>none) none none (fun _=>none) none f g none (fun _ _=>none) none (fun _=>none) (fun _=>none) none none (fun _ _=>none)
noncomputable def V.EC{α:Type}(x:V)(f:TypeId→V→Option α)(n:Option α):Option α:=
 @V.casesOn (fun _=>Option α) x (fun _=>none) (fun _ _=>none) (fun _=>none) (fun _ _=>none) none (fun _ _ _ _=>none) (fun _ _ _ _=>none) none none (fun _=>none) none (fun _ _ _=>none) (fun _=>none) none f n (fun _=>none) (fun _=>none) none none (fun _ _=>none)
noncomputable def qM(x:V):Option V:=
 @V.casesOn (fun _=>Option V) x (fun _=>some x) (fun _ _=>some x) (fun _=>some x) (fun _ _=>some x) none (fun _ _ _ _=>some x) (fun _ _ _ _=>some x) (some x) (some x) (fun _=>some x) (some x) (fun _ _ _=>some x) (fun _=>some x) none (fun _ _=>some x) none (fun _=>some x) (fun _=>none) none none (fun _ _=>none)
noncomputable def AN(op:UnOp)(x:V):Option V:=match op with
 | .not=>x.bool fun b=>some (.b (cJ b))
 | .neg=>x.int fun k n=>yv k (rq k (Int.sub 0 n))
 |_=>none
noncomputable def bytesOf(l:V):Option (List Nat):=
 @V.rec (fun _=>Option (List Nat)) (fun _=>none) (fun _ _=>none) (fun _=>none) (fun _ _=>none) none (fun _ _ _ _=>none) (fun _ _ _ _=>none) none none (fun _=>none) none (fun _ _ _ _ _=>none) (fun _=>none) none (fun _ _ _=>none) none (fun _ _=>none) (fun _ _=>none) none (some [])
  (fun a _ _ ih=>a.int fun k n=>bf (xE k .u8) (FL n fun n=>bf (Nat.ble n 255) (bO ih fun r=>some (n::r)))) l
noncomputable def wz{α:Type}(hb:Id→Option aj)(x:V)(f:List Nat→Option α):Option α:=
 @Bool.rec (fun _=>Option α) (x.uT (fun b o n _=>bO (hb b) fun k=>k.cells fun l=>bO (bY o n l) fun c=>bO (bytesOf c) f)
  (fun b o n _=>bO (hb b) fun k=>k.cells fun l=>bO (bY o n l) fun c=>bO (bytesOf c) f) (f [])) (f []) x.rp
noncomputable def ED(P:Program)(e:TypeId):Bool:=match P.underlying e with
 |some (.int .u8)=>true
 |_=>false
noncomputable def nU(P:Program)(hb:Id→Option aj)(nx:Id)(src dst:TypeId)(x:V):Option bw:=
 bO (
  P.underlying src) fun s=>bO (P.underlying dst) fun d=>match d with
  | .int k=>x.int fun _ n=>bO (yv k (rq k n)) fun r=>some (.v r)
  |
   .string=>match s with
   | .slice e=>bf (ED P e) (wz hb x fun l=>some (.v (.s l)))
   |_=>none
  | .slice e=>bf (ED P e) (@Bool.rec (fun _=>Option bw) (x.str fun s=>fN (lf s) fun n=>fC (lg s) fun c=>some (.nw (.su nx 0 n 1) (.u c e)))
   (match s with
    | .slice _=>x.uT (fun b _ _ _=>bO (hb b) fun k=>k.cells fun _=>some (.ch x b k)) (fun b _ _ _=>bO (hb b) fun k=>k.cells fun _=>some (.ch x b k)) none
    |_=>none) (Nat.beq src dst))
  |_=>none
noncomputable def zw(P:Program)(t:TypeId):Bool:=match P.underlying t with
 |some (.interface _)=>true
 |none=>true
 |_=>false
noncomputable def zx(P:Program)(t:TypeId)(x:V):Option V:=bf (cJ (zw P t)) (some (.FG t x))
noncomputable def Cu(ok:Bool)(v:V)(b:Bool):V:=@Bool.rec (fun _=>V) v (.bU (.cons v (.cons (.b b) .nil))) ok
noncomputable def wA(P:Program)(asserted:TypeId)(ok:Bool)(x:V):Option V:=
 bf (cJ (zw P asserted)) (x.EC (fun t v=>@Bool.rec (fun _=>Option V) (bf ok (bO (zeroV P asserted) fun z=>some (Cu true z false))) (some (Cu ok v true)) (Nat.beq t asserted)) (bf ok (bO (zeroV P asserted) fun z=>some (Cu true z false))))
noncomputable def zy(P:Program)(nx:Id)(t:TypeId)(r:Option V):Option bw:=
 @Option.rec V (fun _=>Option bw) (some (.nw (.m nx) (.m .nil 0))) (fun x=>x.int fun _ _=>bO (P.underlying t) fun d=>match d with
  | .map _ _=>some (.nw (.m nx) (.m .nil 0))
  |_=>none) r
noncomputable def sX(P:Program)(nx:Id)(t:TypeId)(l c:V):Option bw:=
 bO (P.underlying t) fun d=>match d with
  | .slice e=>bO (P.info? e) fun i=>l.int fun _ l=>FL l fun l=>c.int fun _ c=>FL c fun c=>bf (Nat.ble l c) (bf (Nat.ble c 1000000) (bf (Nat.ble i.bytes 100000) (bO (FK P e i.size c) fun r=>fC r fun r=>some (.nw (.sl nx 0 l c) (.c r e)))))
  |_=>none
noncomputable def nV(P:Program)(kt:TypeId)(k:V)(es:Es):Option (Option V):=
 @Es.rec (fun _=>Option (Option V)) (some none) (fun k' v _ _ ih=>bO (l4 P kt k k') fun b=>@Bool.rec (fun _=>Option (Option V)) ih (some (some v)) b) es
noncomputable def jb(P:Program)(hb:Id→Option aj)(t:TypeId)(x k:V)(ok:Bool):Option V:=
 bO (P.underlying t) fun d=>match d with
  | .map kt e=>bO (l4 P kt k k) fun kk=>bf kk (x.mp (fun b=>bO (hb b) fun bl=>bl.uZ fun es _=>bO (nV P kt k es) fun r=>@Option.rec V (fun _=>Option V) (bO (zeroV P e) fun z=>some (Cu ok z false)) (fun v=>some (Cu ok v true)) r)
   (bO (zeroV P e) fun z=>some (Cu ok z false)))
  |_=>none
noncomputable def lu(P:Program)(kt:TypeId)(k v:V)(ck:Nat)(es:Es):Option Es:=
 @Es.rec (fun _=>Option Es) (some (.cons k v ck .nil)) (fun k' v' n l ih=>bO (l4 P kt k k') fun b=>@Bool.rec (fun _=>Option Es) (bO ih fun r=>some (.cons k' v' n r)) (some (.cons k v n l)) b) es
noncomputable def wB(P:Program)(hb:Id→Option aj)(t:TypeId)(x k v:V):Option bw:=
 bO (P.underlying t) fun d=>match d with
  | .map kt _=>bO (l4 P kt k k) fun kk=>bf kk (x.mp (fun b=>bO (hb b) fun bl=>bl.uZ fun es ck=>bO (nV P kt k es) fun r=>bO (lu P kt k v ck es) fun SD=>@Option.rec V (fun _=>Option bw) (fN (Nat.succ ck) fun ck'=>some (.ch .un b (.m SD ck'))) (fun _=>some (.ch .un b (.m SD ck))) r) none)
  |_=>none
noncomputable def zA(P:Program)(hb:Id→Option aj)(nx:Id)(t:TypeId)(x:V):Option bw:=
 bO (P.underlying t) fun d=>match d with
  | .map _ _=>x.mp (fun b=>bO (hb b) fun bl=>bl.uZ fun _ ck=>some (.nw (.p nx 0) (.it (some b) ck [] ck))) (some (.nw (.p nx 0) (.it none 0 [] 0)))
  |_=>none
noncomputable def aj.Qi{α:Type}(k:aj)(f:Option Id→Nat→List Nat→Nat→Option α):Option α:=
 @aj.casesOn (fun _=>Option α) k (fun _ _=>none) (fun _ _=>none) (fun _ _=>none) f (fun _ _=>none) (fun _ _ _ _ _ _ _ _ _=>none) none
noncomputable def uz(n:Nat)(l:List Nat):Bool:=@List.rec Nat (fun _=>Bool) false (fun a _ ih=>@Bool.rec (fun _=>Bool) ih true (Nat.beq a n)) l
noncomputable def nW(seen:List Nat)(es:Es):Es:=
 @Es.rec (fun _=>Es) .nil (fun k v n _ ih=>@Bool.rec (fun _=>Es) (.cons k v n ih) ih (uz n seen)) es
noncomputable def zB(n:Nat)(es:Es):Bool:=@Es.rec (fun _=>Bool) false (fun _ _ b _ ih=>@Bool.rec (fun _=>Bool) ih true (Nat.ble (Nat.succ b) n)) es
noncomputable def yi(seen:List Nat)(last:Nat)(es:Es):Bool:=
 @List.casesOn Nat (fun _=>Bool) seen true fun _ _=>@Es.casesOn (fun _=>Bool) es true fun _ _ _ _=>zB last es
noncomputable def Cv(hb:Id→Option aj)(x:V)(str:Bool):Option bw:=
 bf (cJ str) (x.ptr fun b o=>bf (Nat.beq o 0) (bO (hb b) fun bl=>bl.Qi fun m since seen last=>
  @Option.rec Id (fun _=>Option bw) (some (.v (.bU (.cons (.b false) .nil))))
   (fun mb=>bO (hb mb) fun ml=>ml.uZ fun es ck=>bf (yi seen last es) (
    @Es.casesOn (fun _=>Option bw) (nW seen es) (some (.v (.bU (.cons (.b false) .nil))))
     (fun k v n l=>@Es.casesOn (fun _=>Option bw) l (bf (Nat.ble (Nat.succ n) since) (some (.ch (.bU (.cons (.b true) (.cons k (.cons v .nil)))) b (.it (some mb) since (seen++[n]) ck)))) (fun _ _ _ _=>none)))) m))
noncomputable def sY(x:V)(i:Nat):Option V:=x.tu fun l=>pd i l
noncomputable def sT(xs:V):Option V:=xs.split none (fun a l=>a.int fun k n=>l.split none (fun b m=>b.int fun k' n'=>m.split (bf (xE k k') (some (.i k (@Bool.rec (fun _=>Int) n n' (FI n n'))))) (fun _ _=>none) none) none) none
noncomputable def sS(xs:V):Option V:=xs.split none (fun a l=>a.int fun k n=>l.split none (fun b m=>b.int fun k' n'=>m.split (bf (xE k k') (some (.i k (@Bool.rec (fun _=>Int) n n' (FI n' n))))) (fun _ _=>none) none) none) none
noncomputable def Jt(x:V):Option Nat:=@Bool.rec (fun _=>Option Nat) (x.uT (fun _ _ n _=>some n) (fun _ _ n _=>some n) (some 0)) (some 0) x.rp
noncomputable def Ju(hb:Id→Option aj)(z:Nat)(x:V):Option V:=
 @Bool.rec (fun _=>Option V) (x.uT (fun b o _ _=>bO (hb b) fun k=>k.cells fun l=>bY o z l) (fun b o _ _=>bO (hb b) fun k=>k.cells fun l=>bY o z l) (bf (Nat.beq z 0) (some .nil))) (bf (Nat.beq z 0) (some .nil)) x.rp
noncomputable def mF(hb:Id→Option aj)(size n:Nat)(s:V)(b:Id)(o l:Nat):Option bw:=
 fN (@Bool.rec (fun _=>Nat) l n (Nat.ble n l)) fun m=>bO (hb b) fun k=>k.cells fun ol=>bO (Ju hb (Nat.mul m size) s) fun c=>bO (w9 o c ol) fun l'=>some (.ch (.i .i64 (.ofNat m)) b (k.br l'))
noncomputable def nL(P:Program)(hb:Id→Option aj)(t:TypeId)(d s:V):Option bw:=
 bO (P.underlying t) fun dd=>match dd with
  | .slice e=>bO (P.info? e) fun i=>bO (Jt s) fun n=>d.uT (fun b o l _=>mF hb i.size n s b o l) (fun b o l _=>mF hb i.size n s b o l) none
  |_=>none
end Go.Cm
namespace Go.Cm
noncomputable def m32(x:Nat):Nat:=Nat.mod x 4294967296
noncomputable def wd(s i:Nat):Nat:=Nat.mod (Nat.shiftRight s i) 4294967296
noncomputable def Cw(i j k y:Nat):Nat:=Nat.mod (Nat.xor (Nat.xor (Nat.shiftRight y i) (Nat.shiftRight y j)) (Nat.shiftRight y k)) 4294967296
noncomputable def Cx(i j k x y:Nat):Nat:=Nat.xor (Nat.mod (Nat.xor (Nat.shiftRight y i) (Nat.shiftRight y j)) 4294967296) (Nat.shiftRight x k)
noncomputable def uA(x:Nat):Nat:=Nat.mul x 4294967297
noncomputable def O4(e f g:Nat):Nat:=Nat.xor g (Nat.land e (Nat.xor f g))
noncomputable def O5(a b c:Nat):Nat:=Nat.lor (Nat.land a b) (Nat.land c (Nat.lor a b))
noncomputable def t1(k s w e:Nat):Nat:=Nat.add (Nat.add (Nat.add (wd s 224) (Cw 6 11 25 (uA e))) (O4 e (wd s 160) (wd s 192))) (Nat.add k (wd w 0))
noncomputable def t2(s a:Nat):Nat:=Nat.add (Cw 2 13 22 (uA a)) (O5 a (wd s 32) (wd s 64))
noncomputable def N8(s t u:Nat):Nat:=Nat.add (Nat.add (m32 (Nat.add t u)) (Nat.mul (Nat.mod s 79228162514264337593543950336) 4294967296)) (Nat.mul (Nat.add (m32 (Nat.add (wd s 96) t)) (Nat.mul (Nat.mod (Nat.shiftRight s 128) 79228162514264337593543950336) 4294967296)) 340282366920938463463374607431768211456)
noncomputable def O6(w x y:Nat):Nat:=m32 (Nat.add (Nat.add (wd w 0) (Cx 7 18 3 x (uA x))) (Nat.add (wd w 288) (Cx 17 19 10 y (uA y))))
noncomputable def O7(w:Nat):Nat:=Nat.add (Nat.shiftRight w 32) (Nat.mul (O6 w (wd w 32) (wd w 448)) 3121748550315992231381597229793166305748598142664971150859156959625371738819765620120306103063491971159826931121406622895447975679288285306290176)
noncomputable def rounds(ks:List Nat):Nat→Nat→Nat:=
 @List.rec Nat (fun _=>Nat→Nat→Nat) (fun s _=>s) (fun k _ ih s w=>fN (t1 k s w (wd s 128)) fun t=>fN (N8 s t (t2 s (wd s 0))) fun s=>fN (O7 w) fun w=>ih s w) ks
noncomputable def Cy(n:Nat):Nat→Nat→Nat:=@Nat.rec (fun _=>Nat→Nat→Nat) (fun _ _=>0) (fun _ ih a b=>Nat.add (m32 (Nat.add a b)) (Nat.mul (ih (Nat.shiftRight a 32) (Nat.shiftRight b 32)) 4294967296)) n
def jJ:List Nat:=[1116352408,1899447441,3049323471,3921009573,961987163,1508970993,2453635748,2870763221,3624381080,310598401,607225278,1426881987,1925078388,2162078206,2614888103,3248222580,3835390401,4022224774,264347078,604807628,770255983,1249150122,1555081692,1996064986,2554220882,2821834349,2952996808,3210313671,3336571891,3584528711,113926993,338241895,666307205,773529912,1294757372,1396182291,1695183700,1986661051,2177026350,2456956037,2730485921,2820302411,3259730800,3345764771,3516065817,3600352804,4094571909,275423344,430227734,506948616,659060556,883997877,958139571,1322822218,1537002063,1747873779,1955562222,2024104815,2227730452,2361852424,2428436474,2756734187,3204031479,3329325298]
noncomputable def words{α:Type}(n:Nat):List Nat→(Nat→List Nat→Option α)→Option α:=
 @Nat.rec (fun _=>List Nat→(Nat→List Nat→Option α)→Option α) (fun l k=>k 0 l)
  (fun _ ih l k=>@List.casesOn Nat (fun _=>Option α) l none fun a l=>@List.casesOn Nat (fun _=>Option α) l none fun b l=>@List.casesOn Nat (fun _=>Option α) l none fun c l=>@List.casesOn Nat (fun _=>Option α) l none fun d l=>
   ih l fun w l=>fN (Nat.add (Nat.add (Nat.mul (Nat.add (Nat.mul (Nat.add (Nat.mul a 256) b) 256) c) 256) d) (Nat.mul w 4294967296)) fun w=>k w l) n
noncomputable def blocks(n:Nat):List Nat→Nat→Option Nat:=
 @Nat.rec (fun _=>List Nat→Nat→Option Nat) (fun _ _=>none)
  (fun _ ih l h=>@List.casesOn Nat (fun _=>Option Nat) l (some h) fun x m=>words 16 (x::m) fun w l=>fN (rounds jJ h w) fun s=>fN (Cy 8 h s) fun h=>ih l h) n
noncomputable def AO{α:Type}(l m:List α):List α:=@List.rec α (fun _=>List α) m (fun a _ ih=>a::ih) l
noncomputable def cD(n:Nat)(l:List Nat):List Nat:=@Nat.rec (fun _=>List Nat) l (fun _ ih=>0::ih) n
noncomputable def l6(n:Nat):Nat→List Nat→List Nat:=@Nat.rec (fun _=>Nat→List Nat→List Nat) (fun _ l=>l) (fun _ ih x l=>fN (Nat.mod x 256) fun y=>fN (Nat.shiftRight x 8) fun z=>ih z (y::l)) n
noncomputable def pad(l:List Nat):List Nat:=fN (lf l) fun n=>AO l (128::cD (Nat.sub 63 (Nat.mod (Nat.add n 8) 64)) (l6 8 (Nat.mul 8 n) []))
noncomputable def Ki(n:Nat):Nat→List Nat:=@Nat.rec (fun _=>Nat→List Nat) (fun _=>[]) (fun _ ih s=>l6 4 (wd s 0) (ih (Nat.shiftRight s 32))) n
noncomputable def EE(l:List Nat):Option (List Nat):=bO (blocks 1000 (pad l) 41557658498906279274860226408925318911382702236748615442085426012007055353447) fun r=>some (Ki 8 r)
end Go.Cm
namespace Go.Cm
inductive Xt where
 |gH
 |ext (i:Nat)
 |ret
inductive Rs where
 |mk (x:Xt) (tm:T V) (hp:T aj) (nx:Id) (df:V)
abbrev dc:=Code→FuncId→Nat→T V→T aj→Id→V→Option Rs
abbrev iL:=T V→T aj→Id→V→Option Rs
noncomputable def Bf{α:Type}(r:Option Rs)(k:Xt→T V→T aj→Id→V→Option α):Option α:=
 @Option.rec Rs (fun _=>Option α) none (fun r=>@Rs.casesOn (fun _=>Option α) r k) r
noncomputable def eZ(tm:T V)(o:Operand):Option V:=
 @Operand.casesOn (fun _=>Option V) o (fun t=>get (aB t) tm) (fun v=>cV v) (fun _=>none) (fun f=>some (.fn f .nil .nil))
noncomputable def je(tm:T V)(l:List Operand):Option V:=
 @List.rec Operand (fun _=>Option V) (some .nil) (fun o _ ih=>bO (eZ tm o) fun v=>bO ih fun r=>some (.cons v r)) l
noncomputable def EF(tm:T V)(l:List (Nat×Operand)):Option (List (Nat×V)):=
 @List.rec (Nat×Operand) (fun _=>Option (List (Nat×V))) (some []) (fun o _ ih=>bO (eZ tm o.2) fun v=>bO ih fun r=>some ((o.1,v)::r)) l
noncomputable def EG(tm:T V)(o:Option Operand):Option (Option V):=
 @Option.rec Operand (fun _=>Option (Option V)) (some none) (fun o=>bO (eZ tm o) fun v=>some (some v)) o
noncomputable def gO{β:Type}(d:Option Tmp)(v:Option V)(tm:T V)(k:T V→β):β:=
 @Option.rec Tmp (fun _=>β) (k tm) (fun t=>dx v (aB t) tm k) d
noncomputable def nX(e:bw)(d:Option Tmp)(tm:T V)(hp:T aj)(nx:Id)(df:V)(k:iL):Option Rs:=
 @bw.casesOn (fun _=>Option Rs) e (fun x=>gO d (some x) tm fun tm=>k tm hp nx df)
  (fun x b=>gO d (some x) tm fun tm=>dx (some b) nx hp fun hp=>Ct (jR nx) fun nx=>k tm hp nx df)
  (fun x b bl=>gO d (some x) tm fun tm=>dx (some bl) b hp fun hp=>k tm hp nx df)
  (fun x b bl=>gO d (some x) tm fun tm=>dx none b hp fun hp=>dx (some bl) nx hp fun hp=>Ct (jR nx) fun nx=>k tm hp nx df)
noncomputable def vE(x:Option V):Option bw:=bO x fun x=>some (.v x)
noncomputable def Jv(P:Program)(gl:List V)(t:TypeId)(g:Nat):Option bw:=
 bO (eK gl g) fun x=>x.ag fun l=>bO (P.underlying t) fun d=>bf (iO d) (bO (P.info? t) fun i=>bf (Nat.beq (mR l) i.size) (some (.v (.agg l))))
abbrev EH:=T V→(Id→Option aj)→Id→Option bw
inductive O8 where
 |mk (f:EH)
noncomputable def zC(P:Program)(hb:Id→Option aj)(t:TypeId)(x k:V):Option bw:=
 bO (P.underlying t) fun d=>match d with
  | .map kt e=>bO (l4 P kt k k) fun kk=>bf kk (x.mp (fun b=>bO (hb b) fun bl=>bl.uZ fun es ck=>bO (nV P kt k es) fun r=>@Option.rec V (fun _=>Option bw) (bO (zeroV P e) fun z=>bO (lu P kt k z ck es) fun SD=>fN (Nat.succ ck) fun ck'=>some (.ch (.bU (.cons z (.cons (.i .i64 (Int.ofNat ck)) .nil))) b (.m SD ck'))) (fun _=>none) r) none)
  |_=>none
noncomputable def zD(n:Nat)(y:V)(es:Es):Option Es:=
 @Es.rec (fun _=>Option Es) none (fun k v n' l ih=>@Bool.rec (fun _=>Option Es) (bO ih fun r=>some (.cons k v n' r)) (some (.cons k y n' l)) (Nat.beq n' n)) es
noncomputable def Im(hb:Id→Option aj)(x s y:V):Option bw:=
 x.mp (fun b=>bO (hb b) fun bl=>bl.uZ fun es ck=>s.int fun _ n=>FL n fun n=>bO (zD n y es) fun SD=>some (.ch .un b (.m SD ck))) none
noncomputable def l8(P:Program)(gl:List V)(op:Op):O8:=
 match op with
 | .move x| .assign x=>.mk fun tm _ _=>vE (eZ tm x)
 | .pick c a b=>.mk fun tm _ _=>bO (eZ tm c) fun c=>c.bool fun c=>@Bool.rec (fun _=>Option bw) (vE (eZ tm b)) (vE (eZ tm a)) c
 | .alloc t=>.mk fun _ _ nx=>zZ P nx t
 | .box t x=>.mk fun tm _ nx=>bO (eZ tm x) fun x=>Iz nx t x
 | .build t ps=>.mk fun tm _ _=>bO (EF tm ps.toList) fun ps=>vE (kW P t ps)
 | .buildSlice t n ps=>.mk fun tm _ nx=>bO (EF tm ps.toList) fun ps=>dR P nx t n ps
 |
  .load t a=>match a with
  | .global g=>.mk fun _ _ _=>Jv P gl t g
  |_=>.mk fun tm hb _=>bO (eZ tm a) fun a=>vE (dJ P hb t a)
 | .store t a x=>.mk fun tm hb _=>bO (eZ tm a) fun a=>bO (eZ tm x) fun x=>bO (kU P hb t a x) fun r=>some (.ch .un r.1 r.2)
 | .nilCheck x=>.mk fun tm _ _=>bO (eZ tm x) fun x=>vE (qM x)
 | .binOp op t x y _=>.mk fun tm _ _=>bO (eZ tm x) fun a=>bO (eZ tm y) fun b=>vE (oM P (@Bool.rec (fun _=>Bool) (AM y) true (AM x)) op t a b)
 | .unOp op _ x=>.mk fun tm _ _=>bO (eZ tm x) fun x=>vE (AN op x)
 | .convert s d x=>.mk fun tm hb nx=>bO (eZ tm x) fun x=>nU P hb nx s d x
 | .makeInterface t x=>.mk fun tm _ _=>bO (eZ tm x) fun x=>vE (zx P t x)
 |
  .makeFunc fn fs cs=>match fn with
  | .func f=>.mk fun tm _ _=>bO (je tm fs.toList) fun fs=>bO (je tm cs.toList) fun cs=>some (.v (.fn f fs cs))
  |_=>.mk fun _ _ _=>none
 | .makeMap t r=>.mk fun tm _ nx=>bO (EG tm r) fun r=>zy P nx t r
 | .makeSlice t l c=>.mk fun tm _ nx=>bO (eZ tm l) fun l=>bO (eZ tm c) fun c=>sX P nx t l c
 |
  .slice t x lo hi mx=>match mx with
  |none=>.mk fun tm _ _=>bO (eZ tm x) fun x=>bO (EG tm lo) fun lo=>bO (EG tm hi) fun hi=>vE (kM P t x lo hi)
  |_=>.mk fun _ _ _=>none
 | .fieldAddr t x i=>.mk fun tm _ _=>bO (eZ tm x) fun x=>vE (dK P t x i)
 | .field t x i=>.mk fun tm _ _=>bO (eZ tm x) fun x=>vE (Aa P t x i)
 | .indexAddr t x i=>.mk fun tm _ _=>bO (eZ tm x) fun x=>bO (eZ tm i) fun i=>vE (fb P t x i)
 | .index t x i=>.mk fun tm _ _=>bO (eZ tm x) fun x=>bO (eZ tm i) fun i=>vE (kP P t x i)
 | .lookup t x i ok=>.mk fun tm hb _=>bO (eZ tm x) fun x=>bO (eZ tm i) fun i=>vE (jb P hb t x i ok)
 | .mapUpdate t m k x| .insert t m k x=>.mk fun tm hb _=>bO (eZ tm m) fun m=>bO (eZ tm k) fun k=>bO (eZ tm x) fun x=>wB P hb t m k x
 | .mapEntry t m k=>.mk fun tm hb _=>bO (eZ tm m) fun m=>bO (eZ tm k) fun k=>zC P hb t m k
 | .entryStore _ m s x=>.mk fun tm hb _=>bO (eZ tm m) fun m=>bO (eZ tm s) fun s=>bO (eZ tm x) fun x=>Im hb m s x
 | .range t x=>.mk fun tm hb nx=>bO (eZ tm x) fun x=>zA P hb nx t x
 | .next x s=>.mk fun tm hb _=>bO (eZ tm x) fun x=>Cv hb x s
 | .typeAssert x _ t ok=>.mk fun tm _ _=>bO (eZ tm x) fun x=>vE (wA P t ok x)
 | .extract x i=>.mk fun tm _ _=>bO (eZ tm x) fun x=>vE (sY x i)
 |_=>.mk fun _ _ _=>none
noncomputable def AP{α:Type}(l:V)(f:V→V→Option α):Option α:=l.split none f none
noncomputable def fP(P:Program)(hb:Id→Option aj)(nx:Id)(b:Builtin)(ts:List TypeId)(a:V):Option bw:=
 match b with
 | .len=>AP a fun x _=>bO (eK ts 0) fun t=>vE (tD P hb t x)
 | .append=>AP a fun s r=>AP r fun x _=>bO (eK ts 0) fun t=>bO (eK ts 1) fun t2=>i9 P hb nx t t2 s x
 | .copy=>AP a fun s r=>AP r fun x _=>bO (eK ts 0) fun t=>nL P hb t s x
 | .max=>vE (sT a)
 | .min=>vE (sS a)
 |_=>none
noncomputable def wC{β:Type}(args:V):Id→T V→(T V→β)→β:=
 @V.rec (fun _=>Id→T V→(T V→β)→β) (fun _ _ t k=>k t) (fun _ _ _ t k=>k t) (fun _ _ t k=>k t) (fun _ _ _ t k=>k t) (fun _ t k=>k t) (fun _ _ _ _ _ t k=>k t) (fun _ _ _ _ _ t k=>k t) (fun _ t k=>k t) (fun _ t k=>k t) (fun _ _ t k=>k t) (fun _ t k=>k t) (fun _ _ _ _ _ _ t k=>k t) (fun _ _ t k=>k t) (fun _ t k=>k t) (fun _ _ _ _ t k=>k t) (fun _ t k=>k t) (fun _ _ _ t k=>k t) (fun _ _ _ t k=>k t) (fun _ t k=>k t) (fun _ t k=>k t)
  (fun a _ _ ih p t k=>dx (some a) p t fun t=>Ct (jR p) fun p=>ih p t k) args
noncomputable def mG(P:Program)(hp:T aj)(tm:T V)(l:List ResultVar):Option V:=
 @List.rec ResultVar (fun _=>Option V) (some .nil) (fun r _ ih=>bO (@ResultVar.casesOn (fun _=>Option V) r (fun t=>get (aB t) tm) (fun a t=>bO (get (aB a) tm) fun p=>dJ P (fun b=>get b hp) t p)) fun v=>bO ih fun l=>some (.cons v l)) l
noncomputable def one(l:V):V:=l.split (.bU l) (fun a m=>m.split a (fun _ _=>.bU l) a) (.bU l)
noncomputable def aj.EI(k:aj):Bool:=@aj.casesOn (fun _=>Bool) k (fun _ _=>false) (fun _ _=>false) (fun _ _=>false) (fun _ _ _ _=>false) (fun _ _=>false) (fun _ _ _ _ _ _ _ _ _=>false) true
noncomputable def aj.Jw{α:Type}(k:aj)(f:LoopState→Option Code→FuncId→T V→Nat→Array Tmp→Code→Code→Id→Option α):Option α:=
 @aj.casesOn (fun _=>Option α) k (fun _ _=>none) (fun _ _=>none) (fun _ _=>none) (fun _ _ _ _=>none) (fun _ _=>none) f none
noncomputable def Cz(x:V):Bool:=@V.casesOn (fun _=>Bool) x (fun _=>true) (fun _ _=>true) (fun _=>true) (fun _ _=>true) true (fun _ _ n c=>Nat.ble n c) (fun _ _ _ _=>true) true true (fun _=>true) true (fun _ _ _=>true) (fun _=>true) true (fun _ _=>true) true (fun _=>true) (fun _=>true) true true (fun _ _=>true)
noncomputable def CA(hp:T aj)(l:V):Option (List Nat):=
 @V.rec (fun _=>Option (List Nat)) (fun _=>none) (fun _ _=>none) (fun _=>none) (fun _ _=>none) none (fun _ _ _ _=>none) (fun _ _ _ _=>none) none none (fun _=>none) none (fun _ _ _ _ _=>none) (fun _=>none) none (fun _ _ _=>none) none (fun _ _=>none) (fun _ _=>none) none (some [])
  (fun a _ _ ih=>bf (Cz a) (wz (fun b=>get b hp) a fun x=>bO ih fun r=>some (AO x r))) l
noncomputable def CC(hp:T aj)(b:Id)(o n:Nat):Option V:=
 bf (Nat.ble n 1000) (bO (get b hp) fun k=>k.cells fun l=>bO (bY o n l) fun c=>bO (CA hp c) fun s=>bf (Nat.ble (lf s) 60000) (bO (EE s) fun d=>fC (lg d) fun r=>some (.agg r)))
noncomputable def sZ(hp:T aj)(args:V):Option V:=
 args.split none (fun x r=>r.split (x.uT (fun b o n c=>bf (Nat.ble n c) (CC hp b o n)) (fun b o n _=>CC hp b o n) (bO (EE []) fun d=>fC (lg d) fun r=>some (.agg r))) (fun _ _=>none) none) none
noncomputable def tag(x:V):Nat:=@V.casesOn (fun _=>Nat) x (fun _=>0) (fun _ _=>1) (fun _=>2) (fun _ _=>3) 4 (fun _ _ _ _=>5) (fun _ _ _ _=>6) 7 8 (fun _=>9) 10 (fun _ _ _=>11) (fun _=>12) 13 (fun _ _=>14) 15 (fun _=>16) (fun _=>17) 18 19 (fun _ _=>20)
noncomputable def bn(a b:Bool):Bool:=@Bool.rec (fun _=>Bool) false b a
noncomputable def Jx(a b:Bool):Bool:=@Bool.rec (fun _=>Bool) (cJ b) b a
noncomputable def fa(x:V):V→Option Bool:=
 @V.rec (fun _=>V→Option Bool) (fun b y=>y.bool fun c=>some (Jx b c)) (fun k n y=>y.int fun k' m=>some (bn (xE k k') (uU n m))) (fun l y=>y.str fun m=>some (DV l m)) (fun b o y=>y.ptr fun c p=>some (bn (jS b c) (Nat.beq o p)))
  (fun y=>some (Nat.beq (tag y) 4)) (fun b o l c y=>y.uT (fun b' o' l' c'=>some (bn (jS b b') (bn (Nat.beq o o') (bn (Nat.beq l l') (Nat.beq c c'))))) (fun _ _ _ _=>none) none) (fun b o l c y=>y.uT (fun _ _ _ _=>none) (fun b' o' l' c'=>some (bn (jS b b') (bn (Nat.beq o o') (bn (Nat.beq l l') (Nat.beq c c'))))) none)
  (fun y=>some (Nat.beq (tag y) 7)) (fun y=>some (Nat.beq (tag y) 8)) (fun b y=>y.mp (fun c=>some (jS b c)) none) (fun y=>some (Nat.beq (tag y) 10))
  (fun f _ _ ia ib y=>y.EB (fun g c d=>bO (ia c) fun p=>bO (ib d) fun q=>some (bn (Nat.beq f g) (bn p q))) fun _=>none) (fun _ _=>none) (fun y=>some (Nat.beq (tag y) 13))
  (fun t _ ih y=>y.EC (fun t' v=>bO (ih v) fun p=>some (bn (Nat.beq t t') p)) none) (fun y=>some (Nat.beq (tag y) 15)) (fun _ ih y=>y.ag ih) (fun _ ih y=>y.tu ih) (fun _=>none)
  (fun y=>y.split (some true) (fun _ _=>none) none) (fun _ _ ia il y=>y.split none (fun b m=>bO (ia b) fun p=>@Bool.rec (fun _=>Option Bool) (some false) (il m) p) none) x
noncomputable def isTrue(o:Option Bool):Bool:=@Option.rec Bool (fun _=>Bool) false (fun b=>b) o
inductive Xr where
 |mk (v:V) (hp:T aj) (nx:Id)
structure Hk where
 h:Nat
 k:Nat
 t:List (Nat×V×V)
 x:Nat
 xf:V→T aj→Id→Option Xr
noncomputable def ky(t:List (Nat×V×V))(f:Nat)(a:V):Option V:=
 @List.rec (Nat×V×V) (fun _=>Option V) none (fun e _ ih=>@Bool.rec (fun _=>Option V) ih (@Bool.rec (fun _=>Option V) ih (some e.2.2) (isTrue (fa e.2.1 a))) (Nat.beq e.1 f)) t
noncomputable def jf(P:Program)(hf:Hk)(ih:dc)(wE:V→T aj→Id→(T aj→Id→Option Rs)→Option Rs)(f:FuncId)(args:V)(hp:T aj)(nx:Id)(k:V→T aj→Id→Option Rs):Option Rs:=
 @Bool.rec (fun _=>Option Rs)
  (@Bool.rec (fun _=>Option Rs) (@Option.rec V (fun _=>Option Rs) (bO (eK P.funcs.toList f) fun fn=>bO fn.body fun c=>wC args [] .e fun tm=>Bf (ih c f fn.ntmps tm hp nx .nil) fun x tm hp nx df=>
   @Xt.casesOn (fun _=>Option Rs) x (wE df hp nx fun hp nx=>bO (mG P hp tm fn.results.toList) fun v=>k (one v) hp nx) (fun _=>none) (wE df hp nx fun hp nx=>bO (mG P hp tm fn.results.toList) fun v=>k (one v) hp nx)) (fun v=>k v hp nx) (@Bool.rec (fun _=>Option V) none (ky hf.t f args) (Nat.testBit hf.k f))) (bO (hf.xf args hp nx) fun r=>@Xr.casesOn (fun _=>Option Rs) r k) (Nat.beq f hf.x))
  (bO (sZ hp args) fun v=>k v hp nx) (Nat.beq f hf.h)
noncomputable def Jy(o:Op):Bool:=match o with
 |
  .call c=>match c.callee with
  |
   .builtin b=>match b with
   | .recover=>c.args.isEmpty
   |_=>false
  |_=>false
 |_=>false
noncomputable def Jz(o:Op):Option Tmp:=match o with
 |
  .assign x=>match x with
  | .tmp t=>some t
  |_=>none
 |_=>none
noncomputable def CD(l:List Oper):Option (Tmp×Tmp):=match l with
 |[o0,o1]=>bf (Jy o0.op) (bf o0.guard.isNone (bf o1.guard.isNone (bO o0.dst fun t5=>bO o1.dst fun t2=>bO (Jz o1.op) fun t=>bf (Nat.beq t t5) (some (t5,t2)))))
 |_=>none
noncomputable def qN(c:Code):Option (Tmp×Tmp×Code):=match c with
 |
  .seq a rest=>match a with
  | .region _ ops d=>bf (cJ d) (bO (CD ops.toList) fun p=>some (p.1,p.2,rest))
  |_=>none
 |_=>none
noncomputable def EJ(P:Program)(ih:dc)(f:FuncId)(args:V)(hp:T aj)(nx:Id)(k:T aj→Id→Option Rs):Option Rs:=
 bO (eK P.funcs.toList f) fun fn=>bO fn.body fun c=>bO (qN c) fun s=>bf (Nat.ble (Nat.succ s.1) fn.ntmps) (bf (Nat.ble (Nat.succ s.2.1) fn.ntmps) (wC args [] .e fun tm=>dx (some .ni) (aB s.1) tm fun tm=>dx (some .ni) (aB s.2.1) tm fun tm=>
  Bf (ih s.2.2 f fn.ntmps tm hp nx .nil) fun x tm hp nx df=>@Xt.casesOn (fun _=>Option Rs) x (df.split (bO (mG P hp tm fn.results.toList) fun _=>k hp nx) (fun _ _=>none) none) (fun _=>none) (df.split (bO (mG P hp tm fn.results.toList) fun _=>k hp nx) (fun _ _=>none) none)))
noncomputable def jg(P:Program)(ih:dc)(df:V):T aj→Id→(T aj→Id→Option Rs)→Option Rs:=
 @V.rec (fun _=>T aj→Id→(T aj→Id→Option Rs)→Option Rs) (fun _ _ _ _=>none) (fun _ _ _ _ _=>none) (fun _ _ _ _=>none) (fun _ _ _ _ _=>none) (fun _ _ _=>none) (fun _ _ _ _ _ _ _=>none) (fun _ _ _ _ _ _ _=>none) (fun _ _ _=>none) (fun _ _ _=>none) (fun _ _ _ _=>none) (fun _ _ _=>none) (fun _ _ _ _ _ _ _ _=>none) (fun _ _ _ _=>none) (fun _ _ _=>none) (fun _ _ _ _ _ _=>none) (fun _ _ _=>none) (fun _ _ _ _ _=>none) (fun _ _ _ _ _=>none) (fun _ _ _=>none)
  (fun hp nx k=>k hp nx)
  (fun a _ _ rest hp nx k=>@Bool.rec (fun _=>Option Rs)
   (a.EB (fun f fs cs=>fC (iv fs cs) fun args=>EJ P ih f args hp nx fun hp nx=>rest hp nx k) fun _=>none)
   (a.mp (fun b=>bO (get b hp) fun bl=>bf bl.EI (dx none b hp fun hp=>rest hp nx k)) none) (@Option.rec Bool (fun _=>Bool) false (fun b=>b) (a.mp (fun _=>some true) none))) df
noncomputable def JA{α:Type}(sz:Nat)(ps:List Tmp):V→T V→(T V→Option α)→Option α:=
 @List.rec Tmp (fun _=>V→T V→(T V→Option α)→Option α) (fun a t k=>a.split (k t) (fun _ _=>none) none) (fun p _ ih a t k=>a.split none (fun x r=>bf (Nat.ble (Nat.succ p) sz) (dx (some x) (aB p) t fun t=>ih r t k)) none) ps
noncomputable def JB(b:Id)(k:V→T aj→Id→Option Rs)(x:Xt)(hp:T aj)(nx:Id):Option Rs:=
 bO (
  get b hp) fun bl=>bl.Jw fun _ _ fn tm sz ps Sz body d=>
  @Xt.casesOn (fun _=>Option Rs) x (dx (some (.lp .ready none fn tm sz ps Sz body d)) b hp fun hp=>k (.b true) hp nx)
   (fun i=>dx (some (.lp .done (some (.exit i)) fn tm sz ps Sz body d)) b hp fun hp=>k (.b false) hp nx)
   (dx (some (.lp .done (some .ret) fn tm sz ps Sz body d)) b hp fun hp=>k (.b false) hp nx)
noncomputable def Io(ih:dc)(b:Id)(k:V→T aj→Id→Option Rs)(fn sz:Nat)(body:Code)(t:T V)(hp:T aj)(nx:Id)(df:V):Option Rs:=
 bO (get b hp) fun bl=>bl.Jw fun st pe fn' tm sz' ps Sz body' d=>@LoopState.casesOn (fun _=>Option Rs) st
  (dx (some (.lp .busy pe fn' tm sz' ps Sz body' d)) b hp fun hp=>Bf (ih body fn sz t hp nx df) fun x _ hp nx _=>JB b k x hp nx) none none none
noncomputable def CE(ih:dc)(b:Id)(args:V)(hp:T aj)(nx:Id)(k:V→T aj→Id→Option Rs):Option Rs:=
 bO (get b hp) fun bl=>bl.Jw fun _ _ fn tm sz ps Sz body _=>
  JA sz ps.toList args tm fun t=>Bf (ih Sz fn sz t hp nx (.yl b)) fun x t hp nx df=>@Xt.casesOn (fun _=>Option Rs) x (Io ih b k fn sz body t hp nx df) (fun _=>none) none
noncomputable def wD(P:Program)(hf:Hk)(ih:dc)(fv args:V)(hp:T aj)(nx:Id)(k:V→T aj→Id→Option Rs):Option Rs:=
 fv.EB (fun f fs cs=>fC (iv fs (iv args cs)) fun a=>jf P hf ih (jg P ih) f a hp nx k) fun b=>CE ih b args hp nx k
noncomputable def dV(l:List Method)(name:String):Option Method:=
 @List.rec Method (fun _=>Option Method) none (fun m _ ih=>@Bool.rec (fun _=>Option Method) ih (some m) (m.name==name)) l
noncomputable def zE(P:Program)(t:TypeId):Option (Option TypeId):=bO (P.underlying t) fun d=>match d with
 | .pointer e=>some (some e)
 |_=>some none
noncomputable def nY(P:Program)(hb:Id→Option aj)(t:TypeId)(v:V)(name:String):Option (FuncId×V):=
 bO (
  P.info? t) fun i=>bO (dV i.methods.toList name) fun m=>bO m.func fun fp=>match m.path.toList with
  |[]=>bO (zE P t) fun e=>@Option.rec TypeId (fun _=>Option (FuncId×V)) (@Bool.rec (fun _=>Option (FuncId×V)) (some (fp.1,v)) none fp.2)
   (fun _=>@Bool.rec (fun _=>Option (FuncId×V)) none (some (fp.1,v)) fp.2) e
  |
   [s]=>bf s.deref (bO (dK P s.struct v s.index) fun p=>bO (P.underlying s.struct) fun d=>match d with
   | .struct fs=>bO (eK fs.toList s.index) fun f=>bO (zE P f.type) fun e=>@Option.rec TypeId (fun _=>Option (FuncId×V)) (@Bool.rec (fun _=>Option (FuncId×V)) (bO (dJ P hb f.type p) fun x=>some (fp.1,x)) (some (fp.1,p)) fp.2) (fun _=>none) e
   |_=>none)
  |_=>none
noncomputable def qO(v:V)(f:Bool→Option Bool):Option Bool:=
 @V.casesOn (fun _=>Option Bool) v f (fun _ _=>none) (fun _=>none) (fun _ _=>none) none (fun _ _ _ _=>none) (fun _ _ _ _=>none) none none (fun _=>none) none (fun _ _ _=>none) (fun _=>none) none (fun _ _=>none) none (fun _=>none) (fun l=>l.split (some false) (fun _ _=>none) none) none none (fun _ _=>none)
noncomputable def want(ops:List Oper)(tm:T V)(g:Option (Nat×Bool)):Option Bool:=
 @Option.rec (Nat×Bool) (fun _=>Option Bool) (some true) (fun p=>bO (eK ops p.1) fun o=>bO o.dst fun d=>bO (get (aB d) tm) fun v=>qO v fun b=>some (@Bool.rec (fun _=>Bool) (cJ p.2) p.2 b)) g
inductive JC where
 |op (f:EH)
 |blt (b:Builtin) (args:List Operand) (ts:List TypeId)
 |val (f:Operand) (args:List Operand)
 |inv (r:Operand) (name:String) (args:List Operand)
 |wE (f:Operand) (args:List Operand)
 |no
noncomputable def O9(s:O8):JC:=@O8.casesOn (fun _=>JC) s fun f=>.op f
noncomputable def c6(P:Program)(gl:List V)(o:Op):JC:=
 match o with
 |
  .call c=>match c.callee with
  | .builtin b=>.blt b c.args.toList c.argTypes.toList
  | .value f=>.val f c.args.toList
  | .invoke r name=>.inv r name c.args.toList
 |
  .defer c=>match c.callee with
  | .value f=>.wE f c.args.toList
  |_=>.no
 |_=>O9 (l8 P gl o)
noncomputable def Qj(dst:Option Tmp)(tm:T V)(hp:T aj)(nx:Id)(df:V)(k:iL)(f:EH):Option Rs:=bO (f tm (fun b=>get b hp) nx) fun e=>nX e dst tm hp nx df k
noncomputable def MR(P:Program)(dst:Option Tmp)(tm:T V)(hp:T aj)(nx:Id)(df:V)(k:iL)(b:Builtin)(args:List Operand)(ts:List TypeId):Option Rs:=
 bO (je tm args) fun a=>bO (fP P (fun b=>get b hp) nx b ts a) fun e=>nX e dst tm hp nx df k
noncomputable def MS(P:Program)(hf:Hk)(ih:dc)(dst:Option Tmp)(tm:T V)(hp:T aj)(nx:Id)(df:V)(k:iL)(f:Operand)(args:List Operand):Option Rs:=
 bO (eZ tm f) fun fv=>bO (je tm args) fun a=>wD P hf ih fv a hp nx fun v hp nx=>gO dst (some v) tm fun tm=>k tm hp nx df
noncomputable def MT(P:Program)(hf:Hk)(ih:dc)(dst:Option Tmp)(tm:T V)(hp:T aj)(nx:Id)(df:V)(k:iL)(r:Operand)(name:String)(args:List Operand):Option Rs:=
 bO (eZ tm r) fun r=>bO (je tm args) fun a=>r.EC (fun t v=>bO (nY P (fun b=>get b hp) t v name) fun fx=>jf P hf ih (jg P ih) fx.1 (.cons fx.2 a) hp nx fun v hp nx=>gO dst (some v) tm fun tm=>k tm hp nx df) none
noncomputable def Pa(df:V):Bool:=df.split true (fun _ _=>true) false
noncomputable def MU(dst:Option Tmp)(tm:T V)(hp:T aj)(nx:Id)(df:V)(k:iL)(f:Operand)(args:List Operand):Option Rs:=
 bO (eZ tm f) fun fv=>bO (je tm args) fun a=>bf (Pa df) (fv.EB (fun f fs cs=>a.split (gO dst none tm fun tm=>k tm hp nx (.cons (.fn f fs cs) df)) (fun _ _=>none) none) fun _=>none)
noncomputable def MV(P:Program)(gl:List V)(hf:Hk)(ih:dc)(o:Oper)(tm:T V)(hp:T aj)(nx:Id)(df:V)(k:iL):Option Rs:=
 @JC.casesOn (fun _=>Option Rs) (c6 P gl o.op) (Qj o.dst tm hp nx df k) (MR P o.dst tm hp nx df k) (MS P hf ih o.dst tm hp nx df k) (MT P hf ih o.dst tm hp nx df k) (MU o.dst tm hp nx df k) none
noncomputable def l9(sz:Nat)(d:Option Tmp):Bool:=@Option.rec Tmp (fun _=>Bool) true (fun t=>Nat.ble (Nat.succ t) sz) d
noncomputable def AQ(P:Program)(gl:List V)(hf:Hk)(ih:dc)(sz:Nat)(all:List Oper)(ops:List Oper):iL:=
 @List.rec Oper (fun _=>iL) (fun tm hp nx df=>some (.mk .gH tm hp nx df))
  (fun o _ rest tm hp nx df=>bf (l9 sz o.dst) (bO (want all tm o.guard) fun w=>@Bool.rec (fun _=>Option Rs) (gO o.dst (some (.bU .nil)) tm fun tm=>rest tm hp nx df) (MV P gl hf ih o tm hp nx df rest) w)) ops
noncomputable def CF(a b:Option aj):Bool:=
 @Option.rec aj (fun _=>Bool) (@Option.rec aj (fun _=>Bool) true (fun _=>false) b)
  (fun a=>@Option.rec aj (fun _=>Bool) false (fun b=>
   @aj.casesOn (fun _=>Bool) a (fun l e=>@aj.casesOn (fun _=>Bool) b (fun m e'=>bn (Nat.beq e e') (isTrue (fa l m))) (fun _ _=>false) (fun _ _=>false) (fun _ _ _ _=>false) (fun _ _=>false) (fun _ _ _ _ _ _ _ _ _=>false) false)
    (fun l e=>@aj.casesOn (fun _=>Bool) b (fun _ _=>false) (fun m e'=>bn (Nat.beq e e') (isTrue (fa l m))) (fun _ _=>false) (fun _ _ _ _=>false) (fun _ _=>false) (fun _ _ _ _ _ _ _ _ _=>false) false)
    (fun _ _=>false) (fun _ _ _ _=>false) (fun _ _=>false) (fun _ _ _ _ _ _ _ _ _=>false) false) b) a
noncomputable def N9(x:V)(l:List Id):List Id:=
 @V.casesOn (fun _=>List Id) x (fun _=>l) (fun _ _=>l) (fun _=>l) (fun b _=>b::l) l (fun b _ _ _=>b::l) (fun b _ _ _=>b::l) l l (fun b=>b::l) l (fun _ _ _=>l) (fun _=>l) l (fun _ _=>l) l (fun _=>l) (fun _=>l) l l (fun _ _=>l)
noncomputable def Pb(o:Operand)(l:List Tmp):List Tmp:=@Operand.casesOn (fun _=>List Tmp) o (fun t=>t::l) (fun _=>l) (fun _=>l) (fun _=>l)
noncomputable def MW(o:Oper):List Tmp:=
 @List.rec Operand (fun _=>List Tmp) (@Option.rec (Nat×Bool) (fun _=>List Tmp) [] (fun _=>[]) o.guard) (fun x _ ih=>Pb x ih) o.op.operands.toList
noncomputable def MX{β:Type}(tm:T V)(ts:List Tmp):(T V→List Id→β)→β:=
 @List.rec Tmp (fun _=>(T V→List Id→β)→β) (fun k=>k .e []) (fun t _ ih k=>ih fun m l=>@Option.rec V (fun _=>β) (k m l) (fun v=>dx (some v) (aB t) m fun m=>k m (N9 v l)) (get (aB t) tm)) ts
noncomputable def qP(b:Id)(l:List Id):Bool:=@List.rec Id (fun _=>Bool) false (fun a _ ih=>@Bool.rec (fun _=>Bool) ih true (jS a b)) l
noncomputable def DU(l:List Id)(hp:T aj)(b:Id):Option aj:=@Bool.rec (fun _=>Option aj) none (get b hp) (qP b l)
inductive Rc where
 |pl (i:Nat) (rd wr:List Id) (lc:Option (Id×Nat×Nat))
 |cl (i:Nat) (KW cX:T aj)
noncomputable def fR(e:bw)(nx:Id):List Id:=@bw.casesOn (fun _=>List Id) e (fun _=>[]) (fun _ _=>[nx]) (fun _ b _=>[b]) (fun _ b _=>[b,nx])
noncomputable def oN(e:bw)(l:List Id):Bool:=@bw.casesOn (fun _=>Bool) e (fun _=>true) (fun _ _=>true) (fun _ b _=>qP b l) (fun _ b _=>qP b l)
noncomputable def allI(p:Id→Bool)(l:List Id):Bool:=@List.rec Id (fun _=>Bool) true (fun a _ ih=>bn (p a) ih) l
noncomputable def gU(l:List Id)(m:List Id):Bool:=allI (fun b=>cJ (qP b l)) m
noncomputable def Bg(hp:T aj)(b:Id):Bool:=@Option.rec aj (fun _=>Bool) true (fun _=>false) (get b hp)
noncomputable def CG(o n:Nat)(a b:Option aj):Bool:=
 isTrue (bO a fun a=>bO b fun b=>a.cells fun l=>b.cells fun m=>bO (bY o n l) fun x=>bO (bY o n m) fun y=>fa x y)
noncomputable def nZ(lc:Option (Id×Nat×Nat))(h0 h1:T aj)(c:Id):Bool:=
 @Bool.rec (fun _=>Bool) (@Option.rec (Id×Nat×Nat) (fun _=>Bool) false (fun p=>bn (jS p.1 c) (CG p.2.1 p.2.2 (get c h0) (get c h1))) lc) true (CF (get c h0) (get c h1))
noncomputable def MY(rd wr:List Id)(lc:Option (Id×Nat×Nat))(h0 h1:T aj):Bool:=bn (allI (fun c=>bn (Bg h0 c) (Bg h1 c)) wr) (allI (nZ lc h0 h1) rd)
noncomputable def indep(a b:Rc):Bool:=
 @Rc.casesOn (fun _=>Bool) a
  (fun _ rd wr lc=>@Rc.casesOn (fun _=>Bool) b (fun _ rd' wr' _=>bn (gU wr rd') (bn (gU wr wr') (gU wr' rd))) (fun _ h0 h1=>MY rd wr lc h0 h1))
  (fun _ h0 h1=>@Rc.casesOn (fun _=>Bool) b (fun _ rd wr lc=>MY rd wr lc h0 h1) (fun _ _ _=>false))
noncomputable def Ip(a:Rc):Nat:=@Rc.casesOn (fun _=>Nat) a (fun i _ _ _=>i) (fun i _ _=>i)
noncomputable def cG(m:Nat)(r:Rc)(rs:List Rc):Bool:=
 @List.rec Rc (fun _=>Bool) true (fun a _ ih=>bn (@Bool.rec (fun _=>Bool) (indep a r) true (Nat.testBit m (Ip a))) ih) rs
noncomputable def MZ(all:List Oper)(g:Option (Nat×Bool))(l:List Tmp):List Tmp:=
 @Option.rec (Nat×Bool) (fun _=>List Tmp) l (fun p=>@Option.rec Oper (fun _=>List Tmp) l (fun o=>@Option.rec Tmp (fun _=>List Tmp) l (fun t=>t::l) o.dst) (eK all p.1)) g
structure Pe where
 i:Nat
 o:Oper
 m:Nat
 ts:List Tmp
def CH(o:Op):Bool:=match o with
 |
  .call c=>match c.callee with
  | .builtin _=>false
  |_=>true
 |_=>false
def uB(acc:List Nat)(o:Oper):Nat:=o.after.toList.foldl (fun s e=>if Region.binds .any e then s ||| 2^e.on ||| acc.getD e.on 0 else s) 0
def ft:List Oper→List Nat→List Nat
 |[],acc=>acc
 |o::l,acc=>ft l (acc++[uB acc o])
def M0(ops:List Oper)(ms:List Nat):List Nat:=
 let n:=ops.length
 let front:=(List.range n).foldl (fun acc c=>if CH ((ops[c]?).map (·.op) |>.getD (.waits 0)) then acc++(List.range n).filter (fun k=>((ms.getD c 0).testBit k||k==c)&& !acc.contains k) else acc) []
 front++(List.range n).filter (fun k=> !front.contains k)
noncomputable def s0(d:Option Tmp)(l:List Tmp):Bool:=@Option.rec Tmp (fun _=>Bool) false (fun t=>uz t l) d
noncomputable def CI(d e:Option Tmp):Bool:=@Option.rec Tmp (fun _=>Bool) false (fun t=>@Option.rec Tmp (fun _=>Bool) false (fun u=>Nat.beq t u) e) d
noncomputable def jK(a b:Pe):Bool:=bn (cJ (s0 a.o.dst b.ts)) (bn (cJ (s0 b.o.dst a.ts)) (cJ (CI a.o.dst b.o.dst)))
noncomputable def kQ(p:Pe)(l:List Pe):Bool:=@List.rec Pe (fun _=>Bool) true (fun a _ ih=>bn (@Bool.rec (fun _=>Bool) (jK a p) true (Nat.testBit p.m a.i)) ih) l
noncomputable def M1(all:List Oper)(ms:List Nat)(i:Nat):Option Pe:=bO (eK all i) fun o=>some ⟨i,o,ms.getD i 0,MZ all o.guard (MW o)⟩
noncomputable def CJ(all:List Oper)(ms:List Nat)(ord:List Nat):Nat→List Pe→Option (List Pe):=
 @List.rec Nat (fun _=>Nat→List Pe→Option (List Pe)) (fun done _acc=>bf (Nat.beq done (Nat.sub (Nat.pow 2 (lf all)) 1)) (some []))
  (fun i _ ih done acc=>bO (M1 all ms i) fun p=>bf (Nat.beq (Nat.land p.m done) p.m) (bf (cJ (Nat.testBit done i)) (bf (kQ p acc) (bO (ih (Nat.lor done (Nat.pow 2 i)) (p::acc)) fun l=>some (p::l))))) ord
noncomputable def yj(all:List Oper):Option (List Pe):=CJ all (ft all []) (M0 all (ft all [])) 0 []
def M3(o:Op):Bool:=match o with
 | .load _ _| .store _ _ _| .convert _ _ _| .lookup _ _ _ _| .mapUpdate _ _ _ _| .insert _ _ _ _| .mapEntry _ _ _| .entryStore _ _ _ _| .range _ _| .next _ _=>true
 |
  .call c=>match c.callee with
  |
   .builtin b=>match b with
   | .append| .copy=>true
   |_=>false
  |_=>true
 |_=>false
noncomputable def Oa{β:Type}(o:Op)(ids:List Id)(k:List Id→β):β:=@Bool.rec (fun _=>β) (k []) (k ids) (M3 o)
noncomputable def Q1(P:Program)(t:TypeId):Option Nat:=bO (P.underlying t) fun d=>bO (P.info? t) fun i=>some (@Bool.rec (fun _=>Nat) 1 i.size (iO d))
noncomputable def rT(P:Program)(tm:T V)(op:Op):Option (Id×Nat×Nat):=match op with
 | .load t a=>bO (eZ tm a) fun v=>v.ptr fun b o=>bO (Q1 P t) fun n=>some (b,o,n)
 |_=>none
noncomputable def mH(P:Program)(gl:List V)(hf:Hk)(ih:dc)(sz:Nat)(all:List Oper)(pl:List Pe):List Rc→iL:=
 @List.rec Pe (fun _=>List Rc→iL) (fun _ tm hp nx df=>some (.mk .gH tm hp nx df))
  (fun p _ rest rs tm hp nx df=>bf (l9 sz p.o.dst) (bO (want all tm p.o.guard) fun w=>@Bool.rec (fun _=>Option Rs)
   (gO p.o.dst none tm fun tm=>rest (.pl p.i [] [] none::rs) tm hp nx df)
   (MX tm p.ts fun SR ids0=>Oa p.o.op ids0 fun ids=>@JC.casesOn (fun _=>Option Rs) (c6 P gl p.o.op)
    (fun f=>bO (f SR (DU ids hp) nx) fun e=>bf (oN e ids) (bf (cG p.m (.pl p.i ids (fR e nx) (rT P SR p.o.op)) rs) (nX e p.o.dst tm hp nx df (rest (.pl p.i ids (fR e nx) (rT P SR p.o.op)::rs)))))
    (fun b args ts=>bO (je SR args) fun a=>bO (fP P (DU ids hp) nx b ts a) fun e=>bf (oN e ids) (bf (cG p.m (.pl p.i ids (fR e nx) none) rs) (nX e p.o.dst tm hp nx df (rest (.pl p.i ids (fR e nx) none::rs)))))
    (fun f args=>bO (eZ SR f) fun fv=>bO (je SR args) fun a=>wD P hf ih fv a hp nx fun v cX ei=>bf (cG p.m (.cl p.i hp cX) rs) (gO p.o.dst (some v) tm fun tm=>rest (.cl p.i hp cX::rs) tm cX ei df))
    (fun r name args=>bO (eZ SR r) fun r=>bO (je SR args) fun a=>r.EC (fun t v=>bO (nY P (fun b=>get b hp) t v name) fun fx=>jf P hf ih (jg P ih) fx.1 (.cons fx.2 a) hp nx fun v cX ei=>bf (cG p.m (.cl p.i hp cX) rs) (gO p.o.dst (some v) tm fun tm=>rest (.cl p.i hp cX::rs) tm cX ei df)) none)
    (fun _ _=>none) none) w)) pl
noncomputable def M4(pe:Option Code)(tm:T V)(hp:T aj)(nx:Id)(df:V):Option Rs:=
 bO pe fun c=>@Code.casesOn (fun _=>Option Rs) c none (fun _ _ _=>none) (fun _ _=>none) (fun _ _ _=>none) (fun _ _=>none) (fun _=>none) (fun _ _ _ _=>none) (fun i=>some (.mk (.ext i) tm hp nx df)) (fun _=>none) (fun _=>none) (fun _=>none) (some (.mk .ret tm hp nx df)) (fun _=>none)
noncomputable def EK(l:Id)(tm:T V)(df:V)(hp:T aj)(nx:Id):Option Rs:=
 bO (get l hp) fun bl=>bl.Jw fun st pe _ _ _ _ _ _ _=>@LoopState.casesOn (fun _=>Option Rs) st (dx none l hp fun hp=>@Option.rec Code (fun _=>Option Rs) (some (.mk .gH tm hp nx df)) (fun _=>none) pe) none (dx none l hp fun hp=>M4 pe tm hp nx df) none
noncomputable def Pc(P:Program)(gl:List V)(hf:Hk)(ih:dc)(_:Nat)(ops:Array Oper)(d:Bool)(_:FuncId)(sz:Nat):iL:=
 @Bool.rec (fun _=>iL) (AQ P gl hf ih sz ops.toList ops.toList) (fun tm hp nx df=>bO (yj ops.toList) fun pl=>mH P gl hf ih sz ops.toList pl [] tm hp nx df) d
noncomputable def M5(ih:dc)(a b:Code)(SM sz:Nat)(tm:T V)(hp:T aj)(nx:Id)(df:V):Option Rs:=
 Bf (ih a SM sz tm hp nx df) fun x tm hp nx df=>@Xt.casesOn (fun _=>Option Rs) x (ih b SM sz tm hp nx df) (fun i=>some (.mk (.ext i) tm hp nx df)) (some (.mk .ret tm hp nx df))
noncomputable def Iq(ih:dc)(c:Operand)(a b:Code)(SM sz:Nat)(tm:T V)(hp:T aj)(nx:Id)(df:V):Option Rs:=
 bO (eZ tm c) fun v=>v.bool fun t=>@Bool.rec (fun _=>Option Rs) (ih b SM sz tm hp nx df) (ih a SM sz tm hp nx df) t
noncomputable def CK(ih:dc)(id:Nat)(a:Code)(SM sz:Nat)(tm:T V)(hp:T aj)(nx:Id)(df:V):Option Rs:=
 Bf (ih a SM sz tm hp nx df) fun x tm hp nx df=>@Xt.casesOn (fun _=>Option Rs) x (some (.mk .gH tm hp nx df)) (fun i=>@Bool.rec (fun _=>Option Rs) (some (.mk (.ext i) tm hp nx df)) (some (.mk .gH tm hp nx df)) (Nat.beq i id)) (some (.mk .ret tm hp nx df))
noncomputable def Ir(ih:dc)(a:Code)(SM sz:Nat)(tm:T V)(hp:T aj)(nx:Id)(df:V):Option Rs:=
 Bf (ih a SM sz tm hp nx df) fun x tm hp nx df=>@Xt.casesOn (fun _=>Option Rs) x (ih (.loop a) SM sz tm hp nx df) (fun i=>some (.mk (.ext i) tm hp nx df)) (some (.mk .ret tm hp nx df))
noncomputable def zF(P:Program)(hf:Hk)(ih:dc)(ps:Array Tmp)(Sz body:Code)(SM sz:Nat)(tm:T V)(hp:T aj)(nx:Id)(df:V)(g:FuncId)(fs cs:V):Option Rs:=
 dx (some .df) nx hp fun hp=>Ct (jR nx) fun l=>dx (some (.lp .ready none SM tm sz ps Sz body nx)) l hp fun hp=>Ct (jR l) fun RY=>
  fC (iv fs (.cons (.yl l) cs)) fun a=>jf P hf ih (jg P ih) g a hp RY fun _ hp RY=>EK l tm (.cons (.m nx) df) hp RY
noncomputable def zG(P:Program)(hf:Hk)(ih:dc)(ps:Array Tmp)(Sz body:Code)(SM sz:Nat)(tm:T V)(hp:T aj)(nx:Id)(df:V)(g:FuncId)(fs cs:V)(d:Id):Option Rs:=
 dx (some (.lp .ready none SM tm sz ps Sz body d)) nx hp fun hp=>Ct (jR nx) fun RY=>
  fC (iv fs (.cons (.yl nx) cs)) fun a=>jf P hf ih (jg P ih) g a hp RY fun _ hp RY=>EK nx tm df hp RY
noncomputable def M6(P:Program)(hf:Hk)(ih:dc)(f:Operand)(ps:Array Tmp)(Sz body:Code)(SM sz:Nat)(tm:T V)(hp:T aj)(nx:Id)(df:V):Option Rs:=
 bO (eZ tm f) fun fv=>fv.EB (fun g fs cs=>df.split (zF P hf ih ps Sz body SM sz tm hp nx df g fs cs) (fun _ _=>zF P hf ih ps Sz body SM sz tm hp nx df g fs cs) (df.EB (fun _ _ _=>none) fun lb=>bO (get lb hp) fun bl=>bl.Jw fun _ _ _ _ _ _ _ _ d=>zG P hf ih ps Sz body SM sz tm hp nx df g fs cs d)) fun _=>none
noncomputable def Is(_ _:Nat)(tm:T V)(hp:T aj)(nx:Id)(df:V):Option Rs:=some (.mk .gH tm hp nx df)
noncomputable def M7(i:Nat)(_ _:Nat)(tm:T V)(hp:T aj)(nx:Id)(df:V):Option Rs:=some (.mk (.ext i) tm hp nx df)
noncomputable def Pd(_ _:Nat)(tm:T V)(hp:T aj)(nx:Id)(df:V):Option Rs:=some (.mk .ret tm hp nx df)
noncomputable def Qk(_ _:Nat)(_:T V)(_:T aj)(_:Id)(_:V):Option Rs:=none
noncomputable def CL(P:Program)(gl:List V)(hf:Hk)(ih:dc):dc:=fun c=>
 @Code.casesOn (fun _=>Nat→Nat→iL) c Is (Pc P gl hf ih) (M5 ih) (Iq ih) (CK ih) (Ir ih) (M6 P hf ih) M7 ih (fun _=>Is) (fun _=>Qk) Pd (fun _=>Qk)
noncomputable def exec(P:Program)(gl:List V)(hf:Hk)(n:Nat):dc:=
 @Nat.rec (fun _=>dc) (fun _ _ _ _ _ _ _=>none) (fun _ ih=>CL P gl hf ih) n
end Go.Cm
namespace Go.Cm
section
variable{P:Program} {E:Env} {w:World}
theorem kz{α:Type}{x:V}{f:FuncId→V→V→Option α}{g:Id→Option α}{y:α}(h:x.EB f g=some y):(∃n a b,x= .fn n a b∧f n a b=some y)∨(∃b,x= .yl b∧g b=some y):=by
 cases x<;>first|exact Or.inl ⟨_,_,_,rfl,h⟩|exact Or.inr ⟨_,rfl,h⟩|cases h
theorem mI{α:Type}{x:V}{f:TypeId→V→Option α}{n:Option α}{y:α}(h:x.EC f n=some y):(∃t v,x= .FG t v∧f t v=some y)∨(x= .ni∧n=some y):=by
 cases x<;>first|exact Or.inl ⟨_,_,rfl,h⟩|exact Or.inr ⟨rfl,h⟩|cases h
theorem aK{tm:T V}{a:Act}{o:Operand}{x:V}(hT:RT E tm a.tmps)(h:eZ tm o=some x):RV E x (a.eval o):=by
 cases o with
 |
  tmp t=>
  obtain⟨u,h1,h2⟩:=hT _ _ (show get (aB t) tm=some x from h)
  rw[cB] at h1
  have:a.eval (.tmp t)=u:=by simp[Act.eval,h1]
  rw[this];exact h2
 |const v=>exact Ds (show cV v=some x from h)
 |global g=>cases h
 |
  func f=>
  cases h
  simp only[RV,Act.eval]
  exact⟨#[], #[],rfl,by simp[aH],by simp[aH]⟩
theorem eD{tm:T V}{a:Act}(hT:RT E tm a.tmps):∀{l:List Operand}{x:V},je tm l=some x→aH E x (l.map a.eval)
 |[],x,h=>by cases h;simp[aH]
 |
  o::l,x,h=>by
  obtain⟨v,h1,h⟩:=aa (show(bO (eZ tm o) fun v=>bO (je tm l) fun r=>some (.cons v r))=some x from h)
  obtain⟨r,h2,h⟩:=aa h
  cases h
  exact aH.aw.2 ⟨_,_,rfl,aK hT h1,eD hT h2⟩
theorem uC{tm:T V}{a:Act}(hT:RT E tm a.tmps):∀{l:List (Nat×Operand)}{x:List (Nat×V)},EF tm l=some x→NZ E x (l.map fun p=>(p.1,a.eval p.2))
 |[],x,h=>by cases h;rfl
 |
  o::l,x,h=>by
  obtain⟨v,h1,h⟩:=aa (show(bO (eZ tm o.2) fun v=>bO (EF tm l) fun r=>some ((o.1,v)::r))=some x from h)
  obtain⟨r,h2,h⟩:=aa h
  cases h
  exact⟨_,_,rfl,aK hT h1,uC hT h2⟩
theorem uD{tm:T V}{a:Act}(hT:RT E tm a.tmps){o:Option Operand}{x:Option V}(h:EG tm o=some x):RO E x (o.map a.eval):=by
 cases o with
 |none=>cases h;trivial
 |
  some o=>
  obtain⟨v,h1,h⟩:=aa (show(bO (eZ tm o) fun v=>some (some v))=some x from h)
  cases h
  exact aK hT h1
theorem rU{x r:V}{v:Value}{o:Oper}{y:Operand}{ρ:Operand→Value}(ho:o.op= .nilCheck y)(hv:ρ y=v)(hx:RV E x v)(h:qM x=some r):(execOp ρ o).run P w= .ok (.value v) w∧r=x:=by
 unfold execOp
 rw[ho]
 simp only[hv]
 cases x<;>first
  |(cases h;done)
  |(cases h;simp only[RV] at hx;subst hx;exact⟨rfl,rfl⟩)
  |(cases h;simp only[RV] at hx;obtain⟨_,rfl⟩:=hx;exact⟨rfl,rfl⟩)
  |(cases h;simp only[RV] at hx;obtain⟨_,_,rfl⟩:=hx;exact⟨rfl,rfl⟩)
  |(cases h;simp only[RV] at hx;obtain⟨_,rfl,_⟩:=hx;exact⟨rfl,rfl⟩)
  |(cases h;simp only[RV] at hx;obtain⟨_,_,rfl,_⟩:=hx;exact⟨rfl,rfl⟩)
  |(cases h;simp only[RV] at hx;obtain⟨_,_,_,rfl,_⟩:=hx;exact⟨rfl,rfl⟩)
theorem uE{op:UnOp}{x r:V}{v:Value}(hx:RV E x v)(h:AN op x=some r):∃u,(Op.unary op v).run P w= .ok u w∧RV E r u:=by
 cases op with
 |
  not=>
  obtain⟨b,rfl,h⟩:=cT h
  cases h
  simp only[RV] at hx
  subst hx
  exact⟨.bool !b,rfl,by simp only[RV,dQ]⟩
 |
  neg=>
  obtain⟨k,n,rfl,h⟩:=aT h
  have:=fy h;subst this
  simp only[RV] at hx
  subst hx
  exact⟨.int k (k.wrap (0 -n)),by simp[Op.unary,Op.intArith],by simp only[RV];rw[gE];rfl⟩
 |_=>cases h
theorem wF{t:TypeId}(h:cJ (zw P t)=true):∃d,P.underlying t=some d∧∀m,d≠.interface m:=by
 unfold zw at h
 split at h
 ·cases h
 ·cases h
 ·rename_i o hn hno
  cases ho:P.underlying t with
  |none=>exact absurd ho hno
  |some d=>exact⟨d,rfl,fun m e=>hn m (by rw[ho,e])⟩
theorem yk{t:TypeId}{x r:V}{v:Value}(hx:RV E x v)(h:zx P t x=some r):(Instr.makeInterface t v).run P w= .ok (.iface t v) w∧RV E r (.iface t v):=by
 obtain⟨h1,h⟩:=ah h
 cases h
 obtain⟨d,hd,hn⟩:=wF h1
 refine⟨?_,by simp only[RV];exact⟨v,rfl,hx⟩⟩
 simp only[Instr.makeInterface,Sem.run_bind,ar hd,Result.andThen_ok]
 cases d<;>first|rfl|exact absurd rfl (hn _)
theorem uF{ok:Bool}{v:V}{u:Value}{b:Bool}(h:RV E v u):RV E (Cu ok v b) (if ok then .tuple #[u,.bool b] else u):=by
 cases ok with
 |false=>exact h
 |
  true=>
  show RV E (.bU _) _
  simp only[RV,if_true]
  exact⟨_,rfl,aH.aw.2 ⟨_,_,rfl,h,aH.aw.2 ⟨_,_,rfl,by simp only[RV],by simp[aH]⟩⟩⟩
theorem wG{xt t:TypeId}{ok:Bool}{x r:V}{v:Value}(hx:RV E x v)(h:wA P t ok x=some r):∃u,(Instr.typeAssert v xt t ok).run P w= .ok u w∧RV E r u:=by
 obtain⟨h1,h⟩:=ah h
 obtain⟨d,hd,hn⟩:=wF h1
 have fails:∀s dy m,(bf ok (bO (zeroV P t) fun z=>some (Cu true z false))=some r)→∃u,((do if ok then pure (.tuple #[←zeroValue t,.bool false]) else runtimePanic (.typeAssertion s dy t m)):Sem Value).run P w= .ok u w∧RV E r u:=by
  intro s dy m hf
  obtain⟨R9,hf⟩:=ah hf
  obtain⟨z,hz,hf⟩:=aa hf
  cases hf
  obtain⟨u,z1,z2⟩:=jo (E:=E) (w:=w) hz
  subst R9
  exact⟨.tuple #[u,.bool false],by simp[z1],uF (ok:=true) z2⟩
 rcases mI h with⟨t',y,rfl,g2⟩|⟨rfl,g2⟩
 ·simp only[RV] at hx
  obtain⟨u,rfl,hu⟩:=hx
  cases hb:Nat.beq t' t with
  |
   true=>
   rw[hb] at g2
   cases(show some (Cu ok y true)=some r from g2)
   have:=bg hb;subst this
   refine⟨_,?_,uF hu⟩
   simp only[Instr.typeAssert,Sem.run_bind,ar hd,Result.andThen_ok]
   cases d<;>first|(simp;done)|exact absurd rfl (hn _)
  |
   false=>
   rw[hb] at g2
   have R7:t'≠t:=fun e=>by subst e;simp at hb
   obtain⟨q,q1,q2⟩:=fails (some xt) (some t') "" g2
   refine⟨q,?_,q2⟩
   simp only[Instr.typeAssert,Sem.run_bind,ar hd,Result.andThen_ok]
   cases d<;>first|(simp only[if_neg R7];exact q1)|exact absurd rfl (hn _)
 ·simp only[RV] at hx
  subst hx
  obtain⟨q,q1,q2⟩:=fails (some xt) none "" g2
  refine⟨q,?_,q2⟩
  simp only[Instr.typeAssert,Sem.run_bind,ar hd,Result.andThen_ok]
  cases d<;>first|exact q1|exact absurd rfl (hn _)
theorem uG{x r:V}{i:Nat}{v:Value}(hx:RV E x v)(h:sY x i=some r):∃u,(Instr.extract v i).run P w= .ok u w∧RV E r u:=by
 obtain⟨l,rfl,h⟩:=zW h
 simp only[RV] at hx
 obtain⟨a,rfl,ha⟩:=hx
 obtain⟨u,h1,h2,_⟩:=uS ha h
 exact⟨u,by
  have:a[i]? =some u:=by simpa using h1
  simp[Instr.extract,this],h2⟩
theorem qy{ts:Array TypeId}{ty:TypeId}{xs r:V}{vs:List Value}(hx:aH E xs vs)(h:sT xs=some r):∃u,(Builtin.max_ ts ty vs.toArray).run P w= .ok u w∧RV E r u:=by
 obtain⟨a,l,rfl,g1⟩:=bq h
 obtain⟨k,n,rfl,g2⟩:=aT g1
 obtain⟨b,m,rfl,g3⟩:=bq g2
 obtain⟨k',n',rfl,g4⟩:=aT g3
 rcases bF g4 with⟨rfl,g5⟩|⟨_,_,_,g5⟩
 ·obtain⟨hk,g6⟩:=ah g5
  cases g6
  have:=gY hk;subst this
  obtain⟨v,t,rfl,h1,h2⟩:=aH.aw.1 hx
  obtain⟨v',t',rfl,h3,h4⟩:=aH.aw.1 h2
  rw[aH.bL] at h4;subst h4
  simp only[RV] at h1 h3
  subst h1;subst h3
  refine⟨.int k (if n'>n then n' else n),by simp[Builtin.max_,Builtin.max2],?_⟩
  simp only[RV,uX]
  by_cases hc:n<n'
  ·simp[hc]
  ·simp[hc]
 ·cases g5
theorem qx{ts:Array TypeId}{ty:TypeId}{xs r:V}{vs:List Value}(hx:aH E xs vs)(h:sS xs=some r):∃u,(Builtin.min_ ts ty vs.toArray).run P w= .ok u w∧RV E r u:=by
 obtain⟨a,l,rfl,g1⟩:=bq h
 obtain⟨k,n,rfl,g2⟩:=aT g1
 obtain⟨b,m,rfl,g3⟩:=bq g2
 obtain⟨k',n',rfl,g4⟩:=aT g3
 rcases bF g4 with⟨rfl,g5⟩|⟨_,_,_,g5⟩
 ·obtain⟨hk,g6⟩:=ah g5
  cases g6
  have:=gY hk;subst this
  obtain⟨v,t,rfl,h1,h2⟩:=aH.aw.1 hx
  obtain⟨v',t',rfl,h3,h4⟩:=aH.aw.1 h2
  rw[aH.bL] at h4;subst h4
  simp only[RV] at h1 h3
  subst h1;subst h3
  refine⟨.int k (if n'<n then n' else n),by simp[Builtin.min_,Builtin.min2],?_⟩
  simp only[RV,uX]
  by_cases hc:n'<n
  ·simp[hc]
  ·simp[hc]
 ·cases g5
end
end Go.Cm
namespace Go.Cm
section
variable{P:Program} {E:Env} {w:World}
theorem wH(w:World){e:TypeId}{cs:Array Value}:(newRow e cs).run P w= .ok ⟨w.heap.size,0,none⟩ (w.alloc (.cells cs e)):=by
 have:(newRow e cs).run P w= .ok ⟨w.heap.size,0,none⟩ {w with heap:=w.heap.push (.cells cs e)}:=by simp[newRow]
 exact this
theorem zH{e:TypeId}(h:ED P e=true):P.underlying e=some (.int .u8):=by
 unfold ED at h
 split at h
 ·assumption
 ·cases h
theorem qQ:∀{l:V}{vs:List Value}{s:List Nat},aH E l vs→bytesOf l=some s→(∀x∈s,x<256)∧vs=s.map (fun n:Nat=>Value.int .u8 (Int.ofNat n)):=by
 intro l
 induction l with
 |
  nil=>
  intro vs s h k
  rw[aH.bL] at h;subst h
  cases(show some []=some s from k)
  exact⟨fun x hx=>(by cases hx),rfl⟩
 |
  cons a l _ ih=>
  intro vs s h k
  obtain⟨v,r,rfl,h1,h2⟩:=aH.aw.1 h
  obtain⟨kk,n,rfl,k1⟩:=aT (show(a.int fun k n=>bf (xE k .u8) (FL n fun n=>bf (Nat.ble n 255) (bO (bytesOf l) fun r=>some (n::r))))=some s from k)
  obtain⟨hk,k2⟩:=ah k1
  obtain⟨m,rfl,k3⟩:=gF k2
  obtain⟨hm,k4⟩:=ah k3
  obtain⟨t,ht,k5⟩:=aa k4
  cases k5
  have:=gY hk;subst this
  obtain⟨i1,i2⟩:=ih h2 ht
  simp only[RV] at h1
  subst h1;subst i2
  have hm:=Nat.le_of_ble_eq_true hm
  refine⟨fun x hx=>?_,rfl⟩
  rcases List.mem_cons.1 hx with e|e
  ·omega
  ·exact i1 x e
 |_=>intro vs s h;simp[aH] at h
theorem wI:∀(s:List Nat)(r:ByteArray),(s.map fun n:Nat=>Int.ofNat n).foldl (fun r n=>r.push (UInt8.ofNat n.toNat)) r=r++eu s
 |[],r=>by apply ByteArray.ext;simp[eu]
 |
  n::s,r=>by
  simp only[List.map_cons,List.foldl_cons]
  rw[wI s]
  apply ByteArray.ext
  simp[eu,ByteArray.push]
theorem EL{α:Type}{hp:T aj}{hb:Id→Option aj}(hH:RH E hp w)(hB:∀b k,hb b=some k→get b hp=some k){x:V}{f:List Nat→Option α}{y:α}{vx:Value}(hx:RV E x vx)(h:wz hb x f=some y):
 ∃s,f s=some y∧(∀x∈s,x<256)∧(Conv.bytesToString vx).run P w= .ok (.string (eu s)) w:=by
 have row:∀(b:Id)(o n cap g:Nat),E.g b=some g→(bO (hb b) fun k=>k.cells fun l=>bO (bY o n l) fun c=>bO (bytesOf c) f)=some y→
  ∃s,f s=some y∧(∀x∈s,x<256)∧(Conv.bytesToString (.slice (some ⟨g,o,none⟩) n cap)).run P w= .ok (.string (eu s)) w:=by
  intro b o n cap g hg h
  obtain⟨k,hk,h1⟩:=aa h
  obtain⟨l,e,hke,h2⟩:=bG h1
  obtain⟨c,hc,h3⟩:=aa h2
  obtain⟨s,hs,h4⟩:=aa h3
  obtain⟨g',ob,e1,e2,e3⟩:=hH.bh b k (hB b k hk)
  rw[hg] at e1;cases e1
  obtain⟨cs,fz,xs,ys,rfl,q1,q2,q3,q4,q5,_⟩:=RB.cells hke e3
  obtain⟨n1,n2,n3⟩:=gX q2 hc
  have Sd:o+n≤cs.size:=by
   have:=congrArg List.length q1
   simp at this;omega
  have he:(cs.toList.drop o).take n=(xs.drop o).take n:=by
   rw[q1,List.drop_append_of_le_length (by omega),List.take_append_of_le_length (by simp;omega)]
  obtain⟨i1,i2⟩:=qQ n2 hs
  refine⟨s,h4,i1,?_⟩
  rw[run_bytesToString w ⟨g,o,none⟩ n cap (s.map fun n:Nat=>Int.ofNat n) (by
   rw[fV e2 Sd,he,i2];simp[Function.comp_def])]
  rw[wI]
  congr 3
 unfold wz at h
 cases hse:x.rp with
 |
  true=>
  rw[hse] at h
  have:=kS hse;subst this
  simp only[RV] at hx
  obtain⟨a,c,rfl⟩:=hx
  refine⟨[],h,fun x hx=>(by cases hx),?_⟩
  rw[run_bytesToString w a 0 c [] (by simp[loadCells,loadCellsFrom])]
  rfl
 |
  false=>
  rw[hse] at h
  rcases cu h with⟨b,o,n,c,rfl,h⟩|⟨b,o,n,z,rfl,h⟩|⟨rfl,h⟩
  ·simp only[RV] at hx
   obtain⟨g,hg,rfl⟩:=hx
   exact row b o n c g hg h
  ·simp only[RV] at hx
   obtain⟨g,c,hg,rfl,_⟩:=hx
   exact row b o n c g hg h
  ·simp only[RV] at hx
   subst hx
   exact⟨[],h,fun x hx=>(by cases hx),rfl⟩
theorem AR{hp:T aj}{nx:Id}(hH:RH E hp w){b:Id}{k:aj}{l:V}{e:TypeId}(hk:get b hp=some k)(hke:k= .c l e∨k= .u l e){g o:Nat}(hg:E.g b=some g):
 ∃w',(markStringish ⟨g,o,none⟩).run P w= .ok () w'∧RH E (put (some k) b hp) w'∧Ex hp nx E w (put (some k) b hp) nx E w':=by
 obtain⟨g',ob,e1,e2,e3⟩:=hH.bh b k hk
 rw[hg] at e1;cases e1
 obtain⟨cs,fz,xs,ys,rfl,q1,q2,q3,q4,q5,q6⟩:=RB.cells hke e3
 obtain⟨fz',hfz',hth⟩:∃fz',fz'=(if fz.1==fz.2 then(cs.size,cs.size+1) else(min fz.1 cs.size,max fz.2 (cs.size+1)))∧xb cs.size fz':=by
  refine⟨_,rfl,?_⟩
  by_cases h:fz.1=fz.2
  ·rw[if_pos (by simpa using h)];exact Or.inr (Nat.le_refl _)
  ·rw[if_neg (by simpa using h)]
   rcases q4 with h'|h'
   ·exact absurd h' h
   ·exact Or.inr (by simp;omega)
 have Ss:(markStringish ⟨g,o,none⟩).run P w= .ok () (w.br g (.cells cs e fz')):=by
  have hsh:w.shape? g=some (e,cs.size):=by simp[World.shape?,e2]
  simp only[markStringish,Sem.run_bind,run_shape,hsh,Result.andThen_ok,run_freeze]
  congr 1
  simp only[World.freeze,World.br]
  rw[if_neg (by decide)]
  congr 1
  apply Array.ext_getElem?
  intro i
  rw[Array.getElem?_modify,Array.getElem?_setIfInBounds]
  have Sg:g<w.heap.size:=(Array.getElem?_eq_some_iff.1 e2).1
  split
  ·rename_i e';subst e'
   rw[e2,hfz']
   obtain⟨lo,hi⟩:=fz
   simp
  ·rfl
 have hrb:RB E b k (.cells cs e fz'):=by
  rcases hke with rfl|rfl
  ·have:=q6 rfl;subst this
   rw[List.append_nil] at q1
   exact⟨cs,fz',rfl,by rw[q1];exact q2,q3,hth,q5⟩
  ·exact⟨cs,fz',xs,ys,rfl,q1,q2,q3,hth,q5⟩
 obtain⟨s1,s2⟩:=hH.change (nx:=nx) (k:=k) hk hg (w.br g (.cells cs e fz')) rfl rfl (Tp.r rfl rfl) rfl hrb
 exact⟨_,Ss,s1,s2⟩
theorem od{L:Nat}{hp:T aj}{nx:Id}{hb:Id→Option aj}(hH:RH E hp w)(hF:bI L nx E)(hB:∀b k,hb b=some k→get b hp=some k){src dst:TypeId}{x:V}{vx:Value}(hx:RV E x vx){ef:bw}(h:nU P hb nx src dst x=some ef):
 pD P L hp nx E w ef (convert src dst vx):=by
 obtain⟨s,hs,h1⟩:=aa h
 obtain⟨d,hd,h2⟩:=aa h1
 cases d with
 |
  int k=>
  obtain⟨k0,n,rfl,h3⟩:=aT h2
  obtain⟨r,hr,h4⟩:=aa h3
  cases h4
  have:=fy hr;subst this
  simp only[RV] at hx
  subst hx
  refine pD.same hH hF (v:=.int k (k.wrap n)) ?_ (by simp only[RV];rw[gE])
  simp only[convert,Sem.run_bind,ar hs,ar hd,Result.andThen_ok]
  rfl
 |
  string=>
  cases s with
  |
   slice e=>
   obtain⟨hu,h3⟩:=ah h2
   obtain⟨l,h4,h5,h6⟩:=EL (P:=P) hH hB hx h3
   cases h4
   have he:=zH hu
   refine pD.same hH hF (v:=.string (eu l)) ?_ (by simp only[RV];exact⟨h5,trivial⟩)
   have hsl:∃a n c,vx= .slice a n c:=by
    unfold wz at h3
    cases hse:x.rp with
    |
     true=>
     have:=kS hse;subst this
     simp only[RV] at hx
     obtain⟨a,c,rfl⟩:=hx
     exact⟨_,_,_,rfl⟩
    |
     false=>
     rw[hse] at h3
     rcases cu h3 with⟨b,o,n,c,rfl,_⟩|⟨b,o,n,z,rfl,_⟩|⟨rfl,_⟩
     ·simp only[RV] at hx;obtain⟨g,_,rfl⟩:=hx;exact⟨_,_,_,rfl⟩
     ·simp only[RV] at hx;obtain⟨g,c,_,rfl,_⟩:=hx;exact⟨_,_,_,rfl⟩
     ·simp only[RV] at hx;subst hx;exact⟨_,_,_,rfl⟩
   obtain⟨a,n,c,rfl⟩:=hsl
   cases a<;>simp only[convert,Sem.run_bind,ar hs,ar hd,ar he,Result.andThen_ok]<;>exact h6
  |_=>cases h2
 |
  slice e=>
  obtain⟨hu,h3⟩:=ah h2
  have he:=zH hu
  cases hsd:Nat.beq src dst with
  |
   true=>
   rw[hsd] at h3
   have hsd:=bg hsd
   subst hsd
   cases s with
   |
    slice e'=>
    have hee:e=e':=by rw[hs] at hd;cases hd;rfl
    subst hee
    have done:∀(b:Id)(o n c g:Nat),E.g b=some g→(bO (hb b) fun k=>k.cells fun _=>some (bw.ch x b k))=some ef→RV E x (.slice (some ⟨g,o,none⟩) n c)→pD P L hp nx E w ef (convert src src (.slice (some ⟨g,o,none⟩) n c)):=by
     intro b o n c g hg h4 hxv
     obtain⟨k,hk,h5⟩:=aa h4
     obtain⟨l,e2,hke,h6⟩:=bG h5
     cases h6
     intro hL
     obtain⟨w',r1,r2,r3⟩:=AR (P:=P) (nx:=nx) hH (hB b k hk) hke (o:=o) hg
     refine⟨.slice (some ⟨g,o,none⟩) n c,w',E,?_,hxv,r2,hF,r3⟩
     simp only[convert,Sem.run_bind,ar hs,ar he,Result.andThen_ok,beq_self_eq_true]
     simp[r1]
    rcases cu (show x.uT (fun b _ _ _=>bO (hb b) fun k=>k.cells fun _=>some (bw.ch x b k)) (fun b _ _ _=>bO (hb b) fun k=>k.cells fun _=>some (bw.ch x b k)) none=some ef from h3) with⟨b,o,n,c,hxe,h4⟩|⟨b,o,n,z,hxe,h4⟩|⟨_,h4⟩
    ·have hx':=hx
     rw[hxe] at hx'
     simp only[RV] at hx'
     obtain⟨g,hg,rfl⟩:=hx'
     exact done b o n c g hg h4 hx
    ·have hx':=hx
     rw[hxe] at hx'
     simp only[RV] at hx'
     obtain⟨g,c,hg,rfl,_⟩:=hx'
     exact done b o n c g hg h4 hx
    ·cases h4
   |_=>cases h3
  |
   false=>
   rw[hsd] at h3
   obtain⟨l,rfl,h4⟩:=dg (show(x.str fun s=>fN (lf s) fun n=>fC (lg s) fun c=>some (bw.nw (.su nx 0 n 1) (.u c e)))=some ef from h3)
   rw[cj,gn,kF] at h4
   cases h4
   simp only[RV] at hx
   obtain⟨hl,rfl⟩:=hx
   intro hL
   have hL:num (jR nx)≤L:=hL
   obtain⟨c1,c2⟩:=pI (E:=E) hl
   obtain⟨cap,hcap⟩:∃cap,cap=(Question.appendCap (eu l).size 0 e).cut (w.tape w.drawn (.appendCap (eu l).size 0 e)):=⟨_,rfl⟩
   have hge:l.length≤cap:=by rw[hcap,jq];simp[Question.cut]
   have hrow:aH E (lg l) ((eu l).data.map fun b=>Value.int .u8 (b.toNat:Int)).toList:=by
    have:((eu l).data.map fun b=>Value.int .u8 (b.toNat:Int)).toList=l.map fun b=>Value.int .u8 ((UInt8.ofNat b).toNat:Int):=by
     simp[eu,Function.comp_def]
    rw[this];exact c1
   obtain⟨cs,hcs⟩:∃cs:Array Value,cs=((eu l).data.map fun b=>Value.int .u8 (b.toNat:Int))++Array.replicate (cap -(eu l).size) (.int .u8 0):=⟨_,rfl⟩
   have Sd:cs.size=cap:=by rw[hcs,jq];simp[eu];omega
   obtain⟨E',hE'⟩:∃E':Env,E'=⟨fun b=>if b=nx then some w.heap.size else E.g b,fun b=>if b=nx then cap else E.n b⟩:=⟨_,rfl⟩
   rw[bk] at hL
   have hle:E.le E':=by
    intro b g hb
    have R7:b≠nx:=fun e'=>by subst e';rw[hF b (Nat.le_refl _) (by omega)] at hb;cases hb
    subst hE'
    exact⟨by simp only[if_neg R7];exact hb,by simp only[if_neg R7]⟩
   have hn:E'.n nx=cs.size:=by subst hE';simp[Sd]
   obtain⟨a1,a2,a3,a4,a5⟩:=hH.fresh hF (by omega) (k:=.u (lg l) e) (o:=.cells cs e (cs.size,cs.size+1)) (n:=cap) (w.drew.alloc (.cells cs e (cs.size,cs.size+1))) rfl rfl (Tp.s rfl rfl) rfl E' hE'
    ⟨cs,_,_,_,rfl,by rw[hcs,Array.toList_append],hrow.mono hle,c2,Or.inr (Nat.le_refl _),hn⟩
   refine⟨.slice (some ⟨w.heap.size,0,none⟩) (eu l).size cap,_,E',?_,?_,a1,a2,a3⟩
   ·have R7:¬src=dst:=fun e=>by subst e;simp at hsd
    have Ss:(Conv.stringToBytes e (eu l)).run P w= .ok (.slice (some ⟨w.heap.size,0,none⟩) (eu l).size cap) (w.drew.alloc (.cells cs e (cs.size,cs.size+1))):=by
     simp only[Conv.stringToBytes,Sem.run_bind,run_choose_drew,Question.forced,Bool.false_eq_true,if_false,Result.andThen_ok]
     rw[←hcap,←hcs]
     have hsh:(w.drew.alloc (.cells cs e)).shape? w.heap.size=some (e,cs.size):=by
      have:(w.drew.alloc (.cells cs e)).heap[w.heap.size]? =some (.cells cs e):=heap_alloc_new w.drew _
      unfold World.shape?
      rw[this]
     have SK:(w.drew.alloc (.cells cs e)).freeze ⟨w.heap.size,cs.size,none⟩ 1=w.drew.alloc (.cells cs e (cs.size,cs.size+1)):=by
      simp only[World.freeze,World.alloc,World.drew]
      rw[if_neg (by decide)]
      congr 1
      apply Array.ext_getElem?
      intro i
      rw[Array.getElem?_modify,Array.getElem?_push,Array.getElem?_push]
      by_cases hi:i=w.heap.size
      ·subst hi;simp
      ·rw[if_neg hi,if_neg hi,if_neg (fun e=>hi e.symm)]
     have hnr:(newRow e cs).run P w.drew= .ok ⟨w.heap.size,0,none⟩ (w.drew.alloc (.cells cs e)):=by
      exact wH w.drew
     simp only[hnr,Result.andThen_ok,markStringish,Sem.run_bind,run_shape,hsh,run_freeze,SK,Sem.run_pure]
    cases s<;>simp only[convert,Sem.run_bind,ar hs,ar hd,ar he,Result.andThen_ok]<;>exact Ss
   ·show RV E' (.su nx 0 l.length 1) _
    simp only[RV]
    exact⟨_,cap,a5,by rw[jq],hge,by rw[hn,Sd];omega⟩
 |_=>cases h2
end
end Go.Cm
namespace Go.Cm
section
variable{P:Program} {E:Env} {w:World}
theorem zI{a b:List Nat}(ha:∀x∈a,x<256)(hb:∀x∈b,x<256):(eu a==eu b)=decide (a=b):=by
 have e1:(eu a==eu b)=((a.map UInt8.ofNat).toArray==(b.map UInt8.ofNat).toArray):=rfl
 rw[e1,Bool.eq_iff_iff]
 simp only[beq_iff_eq,decide_eq_true_eq]
 constructor
 ·intro h;exact pG ha hb (by simpa using congrArg Array.toList h)
 ·intro h;rw[h]
theorem CM{xs ys:List Value}:∀{l m:V},aH E l xs→aH E m ys→Jq l m=some true→xs=ys∧∀v∈xs,∃k n,v= .int k n:=by
 intro l
 induction l generalizing xs ys with
 |
  nil=>
  intro m h1 h2 h
  rcases bF (show m.split (some true) (fun _ _=>none) none=some true from h) with⟨rfl,_⟩|⟨_,_,_,h⟩
  ·rw[aH.bL] at h1 h2;subst h1;subst h2;exact⟨rfl,fun v hv=>by cases hv⟩
  ·cases h
 |
  cons a l _ ih=>
  intro m h1 h2 h
  obtain⟨c,m',rfl,g1⟩:=bq (show m.split none (fun b' m'=>a.int fun k i=>b'.int fun k' j=>bf (xE k k') (@Bool.rec (fun _=>Option Bool) (some false) (Jq l m') (uU i j))) none=some true from h)
  obtain⟨k,x,rfl,g2⟩:=aT g1
  obtain⟨k',y,rfl,g3⟩:=aT g2
  obtain⟨hk,g4⟩:=ah g3
  have:=gY hk;subst this
  obtain⟨v,r,rfl,v1,v2⟩:=aH.aw.1 h1
  obtain⟨u,s,rfl,u1,u2⟩:=aH.aw.1 h2
  simp only[RV] at v1 u1
  subst v1;subst u1
  cases hq:uU x y with
  |false=>rw[hq] at g4;cases g4
  |
   true=>
   rw[hq] at g4
   obtain⟨i1,i2⟩:=ih v2 u2 (show Jq l m'=some true from g4)
   rw[jU] at hq
   have hxy:x=y:=by simpa using hq
   subst hxy;subst i1
   refine⟨rfl,fun v hv=>?_⟩
   rcases List.mem_cons.1 hv with e|e
   ·exact⟨_,_,e⟩
   ·exact i2 v e
 |_=>intro m h1;simp[aH] at h1
theorem iM{n:Nat}:∀(l:List Value),(∀v∈l,∃k n,v= .int k n)→(l.zip l).all (fun(x,y)=>Instr.sameBits n x y)=true
 |[],_=>rfl
 |
  v::l,h=>by
  obtain⟨k,m,rfl⟩:=h v (List.mem_cons_self ..)
  simp only[List.zip_cons_cons,List.all_cons,Bool.and_eq_true]
  exact⟨by simp[Instr.sameBits],iM l (fun u hu=>h u (List.mem_cons_of_mem _ hu))⟩
theorem AS{t:TypeId}{x y:V}{vx vy:Value}(hx:RV E x vx)(hy:RV E y vy)(h:l4 P t x y=some true):vx=vy∧Instr.sameBits 10000 vx vx=true:=by
 obtain⟨dd,hd,h_1⟩:=aa h
 cases dd with
 |
  int k0=>
  obtain⟨k,a,rfl,h_2⟩:=aT h_1
  obtain⟨k',c,rfl,h_3⟩:=aT h_2
  obtain⟨hk,h_4⟩:=ah h_3
  have:=gY hk;subst this
  simp only[RV] at hx hy
  subst hx;subst hy
  have h_5:=Option.some.inj h_4
  rw[jU] at h_5
  have:a=c:=by simpa using h_5
  subst this
  exact⟨rfl,by simp[Instr.sameBits]⟩
 |
  string=>
  obtain⟨a,rfl,h_5⟩:=dg h_1
  obtain⟨c,rfl,h_6⟩:=dg h_5
  have h_7:=Option.some.inj h_6
  rw[om] at h_7
  have:a=c:=by simpa using h_7
  subst this
  simp only[RV] at hx hy
  obtain⟨q1,rfl⟩:=hx
  obtain⟨_,rfl⟩:=hy
  refine⟨rfl,?_⟩
  show(eu a==eu a)=true
  rw[zI q1 q1];simp
 |
  bool=>
  obtain⟨a,rfl,h_7⟩:=cT h_1
  obtain⟨c,rfl,h_8⟩:=cT h_7
  simp only[RV] at hx hy
  subst hx;subst hy
  have:a=c:=by
   have:=Option.some.inj h_8
   cases a<;>cases c<;>first|rfl|cases this
  subst this
  exact⟨rfl,by simp[Instr.sameBits]⟩
 |
  array n e=>
  obtain⟨de,he,h_9⟩:=aa h_1
  cases de with
  |
   int k0=>
   obtain⟨i,hi,h_10⟩:=aa h_9
   obtain⟨h1,h_11⟩:=ah h_10
   obtain⟨l,rfl,h_12⟩:=cC h_11
   obtain⟨m,rfl,h_13⟩:=cC h_12
   obtain⟨h2,h_14⟩:=ah h_13
   simp only[RV] at hx hy
   obtain⟨a,rfl,x1,x2⟩:=hx
   obtain⟨c,rfl,y1,y2⟩:=hy
   obtain⟨q1,q2⟩:=CM x1 y1 h_14
   have:a=c:=Array.ext' q1
   subst this
   refine⟨rfl,?_⟩
   show(a.size==a.size&&(a.toList.zip a.toList).all fun(x,y)=>Instr.sameBits 9999 x y)=true
   rw[iM _ q2];simp
  |_=>cases h_9
 |
  struct fs=>
  obtain⟨s,hs,h_9⟩:=aa h_1
  obtain⟨l,rfl,h_10⟩:=cC h_9
  obtain⟨m,rfl,h_11⟩:=cC h_10
  obtain⟨h2,h_12⟩:=ah h_11
  simp only[RV] at hx hy
  obtain⟨a,rfl,x1,x2⟩:=hx
  obtain⟨c,rfl,y1,y2⟩:=hy
  have hp:=zq x1 y1 h_12
  have:a=c:=Array.ext' (hp.same rfl)
  subst this
  refine⟨rfl,?_⟩
  show(a.size==a.size&&(a.toList.zip a.toList).all fun(x,y)=>Instr.sameBits 9999 x y)=true
  rw[iM _ hp.ints];simp
 |_=>cases h_1
theorem wJ{em:Bool}(d:Nat):∀(n:Nat)(t:TypeId)(s:Nat)(v:Value)(xs:List Value),fk P n t=some s→KV P t v xs→xs.length=s→(Instr.checkKey em (d+n) t v).run P w= .ok () w:=by
 intro n
 induction n with
 |zero=>intro t s v xs h;cases h
 |
  succ n ih=>
  intro t s v xs h hx hl
  obtain⟨n',e,hh⟩:=qK h
  cases e
  obtain⟨d1,hd1,hx⟩:=hx
  rw[show d+(n+1)=d+n+1 from rfl,Instr.checkKey]
  simp only[Sem.run_bind,ar hd1,Result.andThen_ok]
  rcases hh with⟨k,hd,rfl⟩|⟨fs,i,hd,h1,h2,h3,rfl⟩
  ·rw[hd1] at hd;cases hd
   rfl
  ·rw[hd1] at hd;cases hd
   rcases hx with⟨_,rfl⟩|⟨hx,_⟩
   rotate_left
   ·cases hx
   have key:∀(fs:List Field)(o e:Nat),uw (fk P n) fs o=some e→e≤xs.length→(forIn fs PUnit.unit fun f _=>do
    if f.name≠ "_" then
     Instr.checkKey em (d+n) f.type (←part f.type xs.toArray f.offset)
     pure (ForInStep.yield PUnit.unit)
    else pure (ForInStep.yield PUnit.unit):Sem PUnit).run P w= .ok () w:=by
    intro fs
    induction fs with
    |nil=>intro o e _ _;simp
    |
     cons f fs ihf=>
     intro o e h he
     obtain⟨h1,h2,m,h3,h4⟩:=nT h
     have hle:=ux h4
     obtain⟨v,p1,p2⟩:=zr (P:=P) (w:=w) (cs:=xs.toArray) (off:=o) h3 (by simp;omega)
     have p3:=ih f.type m v _ h3 p2 (by simp;omega)
     simp only[List.forIn_cons,if_pos h1,Sem.run_bind,h2,p1,Result.andThen_ok,p3,Sem.run_pure]
     exact ihf _ _ h4 he
   have:=key fs.toList 0 _ h2 (by omega)
   rw[Array.forIn_toList] at this
   simp only[Sem.run_bind,this,Result.andThen_ok,Sem.run_pure]
theorem dH{em:Bool}{t:TypeId}{x:V}{v:Value}{d:Nat}(hx:RV E x v)(h:l4 P t x x=some true):(Instr.checkKey em (d+3) t v).run P w= .ok () w:=by
 obtain⟨dd,hd,h_1⟩:=aa h
 by_cases hst:∃fs,dd= .struct fs
 ·obtain⟨fs,rfl⟩:=hst
  obtain⟨s,hs,h_9⟩:=aa h_1
  obtain⟨l,rfl,h_10⟩:=cC h_9
  obtain⟨m,hm,h_11⟩:=cC h_10
  obtain⟨h2,h_12⟩:=ah h_11
  simp only[RV] at hx
  obtain⟨a,rfl,x1,x2⟩:=hx
  have hlen:a.toList.length=s:=by have:=x1.len;rw[bg h2] at this;exact this.symm
  exact wJ d 3 t s (.agg a) a.toList hs ⟨_,hd,Or.inl ⟨rfl,rfl⟩⟩ hlen
 rw[Instr.checkKey]
 simp only[Sem.run_bind,ar hd,Result.andThen_ok]
 cases dd with
 |int k0=>rfl
 |string=>rfl
 |bool=>rfl
 |
  array n e=>
  obtain⟨de,he,h_9⟩:=aa h_1
  cases de with
  |
   int k0=>
   obtain⟨i,hi,h_10⟩:=aa h_9
   obtain⟨h1,h_11⟩:=ah h_10
   obtain⟨l,rfl,h_12⟩:=cC h_11
   obtain⟨m,hm,h_13⟩:=cC h_12
   obtain⟨h2,h_14⟩:=ah h_13
   simp only[RV] at hx
   obtain⟨a,rfl,x1,x2⟩:=hx
   have hlen:a.size=n:=by have:=x1.len;rw[bg h2] at this;simpa using this.symm
   have h1:=bg h1
   simp only[Std.Legacy.Range.forIn_eq_forIn_range',Std.Legacy.Range.size,Nat.sub_zero,Nat.add_one_sub_one,Nat.div_one]
   have key:∀(is:List Nat),(∀j∈is,j<n)→(forIn is PUnit.unit fun i _=>do
    Instr.checkKey em (d+2) e (←part e a (i*(←sizeOf e)))
    pure (ForInStep.yield PUnit.unit):Sem PUnit).run P w= .ok () w:=by
    intro is
    induction is with
    |nil=>intro _;simp
    |
     cons j is ihl=>
     intro hj
     have hjn:=hj j (by simp)
     have p1:(part e a (j*i.size)).run P w= .ok a[j] w:=by
      rw[h1]
      simp[part,dq he,iO,hlen,hjn]
     have p2:(Instr.checkKey em (d+2) e a[j]).run P w= .ok () w:=by
      rw[Instr.checkKey]
      simp only[Sem.run_bind,ar he,Result.andThen_ok]
      rfl
     simp only[List.forIn_cons,Sem.run_bind,aU hi,Result.andThen_ok,p1,p2,Sem.run_pure]
     exact ihl (fun j' hj'=>hj j' (by simp[hj']))
   have:=key (List.range' 0 n) (fun j hj=>by simp at hj;omega)
   simp only[Sem.run_bind,this,Result.andThen_ok,Sem.run_pure]
  |_=>cases h_9
 |struct fs=>exact absurd ⟨fs,rfl⟩ hst
 |_=>cases h_1
theorem ym{t:TypeId}{d:TypeDesc}(hd:P.underlying t=some d){x y:V}{vx vy:Value}{b:Bool}(hx:RV E x vx)(hy:RV E y vy)(h:l4 P t x y=some b):Instr.sameNow d vx vy=some b∨Instr.sameNow d vx vy=none:=by
 obtain⟨dd,hd',h_1⟩:=aa h
 rw[hd] at hd';cases hd'
 cases d with
 |
  int k0=>
  obtain⟨k,a,rfl,h_2⟩:=aT h_1
  obtain⟨k',c,rfl,h_3⟩:=aT h_2
  obtain⟨hk,h_4⟩:=ah h_3
  have:=gY hk;subst this
  cases h_4
  simp only[RV] at hx hy
  subst hx;subst hy
  left;simp[Instr.sameNow,jU]
 |
  string=>
  obtain⟨a,rfl,h_5⟩:=dg h_1
  obtain⟨c,rfl,h_6⟩:=dg h_5
  cases h_6
  simp only[RV] at hx hy
  obtain⟨h1,rfl⟩:=hx
  obtain⟨h2,rfl⟩:=hy
  left
  simp only[Instr.sameNow,om]
  rw[zI h1 h2]
 |
  bool=>
  obtain⟨a,rfl,h_7⟩:=cT h_1
  obtain⟨c,rfl,h_8⟩:=cT h_7
  cases h_8
  simp only[RV] at hx hy
  subst hx;subst hy
  left
  cases a<;>cases c<;>rfl
 |_=>right;rfl
theorem pC{kt:TypeId}{d:TypeDesc}(hd:P.underlying kt=some d){k:V}{v:Value}(hk:RV E k v):∀{es:Es}{l:List MapEntry}{r:Option V},tA E es l→nV P kt k es=some r→
 (r=none→(∀i,(Instr.findAsking kt v l i).run P w= .ok none w)∧(∀i,Instr.findNow d v l i=some none∨Instr.findNow d v l i=none)∧∀x u ck SD,RV E x u→lu P kt k x ck es=some SD→tA E SD (l++[{key:=v,val:=u,born:=ck}]))∧
 (∀y,r=some y→∃j e,l[j]? =some e∧RV E y e.val∧e.key=v∧Instr.sameBits 10000 v v=true∧(∀i,(Instr.findAsking kt v l i).run P w= .ok (some (i+j,e.val)) w)∧(∀i,Instr.findNow d v l i=some (some (i+j,e.val))∨Instr.findNow d v l i=none)∧
  ∀x u ck SD,RV E x u→lu P kt k x ck es=some SD→tA E SD (l.modify j fun e=>{e with key:=v,val:=u}))
 |
  .nil,l,r,h,hf=>by
  have h:l= []:=h
  subst h
  cases(show some none=some r from hf)
  refine⟨fun _=>⟨fun i=>by simp[Instr.findAsking],fun i=>Or.inl rfl,fun x u ck SD hx hs=>?_⟩,fun y hy=>by cases hy⟩
  cases(show some (Es.cons k x ck .nil)=some SD from hs)
  exact⟨_,_,rfl,hk,hx,rfl,rfl⟩
 |
  .cons k' v' n es,l,r,⟨e,t,hl,h1,h2,h3,h4⟩,hf=>by
  subst hl
  obtain⟨b,hb,hf⟩:=aa (show(bO (l4 P kt k k') fun b=>@Bool.rec (fun _=>Option (Option V)) (nV P kt k es) (some (some v')) b)=some r from hf)
  have heq:=uy (P:=P) (w:=w) (d:=9997) hk h1 hb
  have hnow:=ym hd hk h1 hb
  cases b with
  |
   true=>
   cases(show some (some v')=some r from hf)
   obtain⟨s1,s2⟩:=AS hk h1 hb
   refine⟨fun h=>(by cases h),fun y hy=>?_⟩
   cases hy
   refine⟨0,e,rfl,h2,s1.symm,s2,fun i=>?_,fun i=>?_,fun x u ck SD hx hs=>?_⟩
   ·simp only[Instr.findAsking,Sem.run_bind,show(Op.equal kt v e.key).run P w= .ok true w from heq,Result.andThen_ok]
    simp
   ·simp only[Instr.findNow]
    rcases hnow with hn|hn<;>simp[hn]
   ·have hs:(bO (l4 P kt k k') fun b=>@Bool.rec (fun _=>Option Es) (bO (lu P kt k x ck es) fun r=>some (Es.cons k' v' n r)) (some (Es.cons k x n es)) b)=some SD:=hs
    rw[hb] at hs
    cases(show some (Es.cons k x n es)=some SD from hs)
    exact⟨{e with key:=v,val:=u},t,by simp[List.modify],hk,hx,h3,h4⟩
  |
   false=>
   obtain⟨i1,i2⟩:=pC hd hk h4 (show nV P kt k es=some r from hf)
   have aA:∀x ck SD,lu P kt k x ck (.cons k' v' n es)=some SD→∃r,lu P kt k x ck es=some r∧SD= .cons k' v' n r:=by
    intro x ck SD hs
    have hs:(bO (l4 P kt k k') fun b=>@Bool.rec (fun _=>Option Es) (bO (lu P kt k x ck es) fun r=>some (Es.cons k' v' n r)) (some (Es.cons k x n es)) b)=some SD:=hs
    rw[hb] at hs
    obtain⟨r,hr,hs⟩:=aa (show(bO (lu P kt k x ck es) fun r=>some (Es.cons k' v' n r))=some SD from hs)
    cases hs
    exact⟨r,hr,rfl⟩
   have hask:∀i,(Instr.findAsking kt v (e::t) i).run P w=(Instr.findAsking kt v t (i+1)).run P w:=by
    intro i
    simp only[Instr.findAsking,Sem.run_bind,show(Op.equal kt v e.key).run P w= .ok false w from heq,Result.andThen_ok]
    simp
   refine⟨fun hr=>?_,fun y hy=>?_⟩
   ·obtain⟨a1,a2,a3⟩:=i1 hr
    refine⟨fun i=>by rw[hask];exact a1 _,fun i=>?_,fun x u ck SD hx hs=>?_⟩
    ·simp only[Instr.findNow]
     rcases hnow with hn|hn<;>simp only[hn]
     ·exact a2 _
     ·exact Or.inr trivial
    ·obtain⟨r',hr',rfl⟩:=aA x ck SD hs
     exact⟨e,t++_,rfl,h1,h2,h3,a3 x u ck r' hx hr'⟩
   ·obtain⟨j,e',a1,a2,a3,a4,a5,a6,a7⟩:=i2 y hy
    refine⟨j+1,e',by simpa using a1,a2,a3,a4,fun i=>?_,fun i=>?_,fun x u ck SD hx hs=>?_⟩
    ·rw[hask,a5];congr 3;omega
    ·simp only[Instr.findNow]
     rcases hnow with hn|hn<;>simp only[hn]
     ·have:=a6 (i+1)
      rw[show i+1+j=i+(j+1) from by omega] at this
      exact this
     ·exact Or.inr trivial
    ·obtain⟨r',hr',rfl⟩:=aA x ck SD hs
     exact⟨e,t.modify j _,by simp[List.modify],h1,h2,h3,a7 x u ck r' hx hr'⟩
theorem gB{kt:TypeId}{d:TypeDesc}(hd:P.underlying kt=some d){v:Value}{l:List MapEntry}{q:Option (Nat×Value)}(h1:(Instr.findAsking kt v l 0).run P w= .ok q w)(h2:Instr.findNow d v l 0=some q∨Instr.findNow d v l 0=none):(Instr.findKey kt v l).run P w= .ok q w:=by
 simp only[Instr.findKey,Sem.run_bind,ar hd,Result.andThen_ok]
 rcases h2 with h|h
 ·rw[h];rfl
 ·rw[h];exact h1
end
end Go.Cm
namespace Go.Cm
section
variable{P:Program} {E:Env} {w:World}
theorem fu{g ck:Nat}{l:Array MapEntry}(h:w.heap[g]? =some (.map l ck)):(getObj g).run P w= .ok (.map l ck) w:=by simp[getObj,Sem.run,h]
theorem mJ{g ck:Nat}{l:Array MapEntry}(o:Obj)(h:w.heap[g]? =some (.map l ck)):(setObj g o).run P w= .ok () {w with heap:=w.heap.setIfInBounds g o}:=by simp[setObj,Sem.run,h]
theorem oe{hp:T aj}(hH:RH E hp w){b:Id}{es:Es}{ck:Nat}(hb:get b hp=some (.m es ck)){g:Nat}(hg:E.g b=some g):∃l:Array MapEntry,w.heap[g]? =some (.map l ck)∧tA E es l.toList:=by
 obtain⟨g',o,h1,h2,l,rfl,h3⟩:=hH.bh b _ hb
 rw[hg] at h1;cases h1
 exact⟨l,h2,h3⟩
theorem kr{hp:T aj}{hb:Id→Option aj}(hH:RH E hp w)(hB:∀b k,hb b=some k→get b hp=some k){t:TypeId}{x k r:V}{ok:Bool}{vx vk:Value}(hx:RV E x vx)(hk:RV E k vk)(h:jb P hb t x k ok=some r):
 ∃v,(Instr.lookup t vx vk ok).run P w= .ok v w∧RV E r v:=by
 obtain⟨d,hd,h1⟩:=aa h
 cases d with
 |
  map kt e=>
  obtain⟨kk,hkk,h2⟩:=aa h1
  obtain⟨hkt,h3⟩:=ah h2
  subst hkt
  have hck:∀em,(Instr.checkKey em 10000 kt vk).run P w= .ok () w:=fun em=>dH (d:=9997) hk hkk
  obtain⟨dk,hdk,_⟩:=aa hkk
  have zero:(bO (zeroV P e) fun z=>some (Cu ok z false))=some r→∃z,(zeroValue e).run P w= .ok z w∧RV E r (if ok then .tuple #[z,.bool false] else z):=by
   intro hz
   obtain⟨z,hz1,hz2⟩:=aa hz
   cases hz2
   obtain⟨v,z1,z2⟩:=jo (E:=E) (w:=w) hz1
   exact⟨v,z1,uF z2⟩
  rcases jT h3 with⟨b,rfl,h4⟩|⟨rfl,h4⟩
  ·obtain⟨bl,hbl,h5⟩:=aa h4
   obtain⟨es,ck,rfl,h6⟩:=fW h5
   obtain⟨q,hq,h7⟩:=aa h6
   simp only[RV] at hx
   obtain⟨g,hg,rfl⟩:=hx
   obtain⟨l,hl,hre⟩:=oe hH (hB b _ hbl) hg
   obtain⟨f1,f2⟩:=pC (P:=P) (w:=w) hdk hk hre hq
   cases q with
   |
    none=>
    obtain⟨a1,a2,_⟩:=f1 rfl
    obtain⟨z,z1,z2⟩:=zero h7
    refine⟨_,?_,z2⟩
    simp only[Instr.lookup,Sem.run_bind,ar hd,Result.andThen_ok,fu hl,Sem.run_pure,hck,gB hdk (a1 0) (a2 0),z1]
   |
    some y=>
    cases(show some (Cu ok y true)=some r from h7)
    obtain⟨j,e',b1,b2,b3,b4,b5,b6,_⟩:=f2 y rfl
    refine⟨_,?_,uF b2⟩
    simp only[Instr.lookup,Sem.run_bind,ar hd,Result.andThen_ok,fu hl,Sem.run_pure,hck,gB hdk (b5 0) (b6 0)]
  ·simp only[RV] at hx
   subst hx
   obtain⟨z,z1,z2⟩:=zero h4
   refine⟨_,?_,z2⟩
   have hf:(Instr.findKey kt vk []).run P w= .ok none w:=by simp[Instr.findKey,ar hdk,Instr.findNow]
   simp only[Instr.lookup,Sem.run_bind,ar hd,Result.andThen_ok,Sem.run_pure,hck]
   simp only[hf,Result.andThen_ok,Sem.run_bind,z1,Sem.run_pure]
 |_=>cases h1
def M8(P:Program)(L:Nat)(hp:T aj)(nx:Id)(E:Env)(w:World)(e:bw)(s:Sem Unit):Prop:=
 num (e.nx nx)≤L→∃w' E',s.run P w= .ok () w'∧RV E' e.val undef∧RH E' (e.hp nx hp) w'∧bI L (e.nx nx) E'∧Ex hp nx E w (e.hp nx hp) (e.nx nx) E' w'
theorem oO{L:Nat}{hp:T aj}{nx:Id}{hb:Id→Option aj}(hH:RH E hp w)(hF:bI L nx E)(hB:∀b k,hb b=some k→get b hp=some k){t:TypeId}{x k y:V}{vx vk vy:Value}(hx:RV E x vx)(hk:RV E k vk)(hy:RV E y vy){ef:bw}(h:wB P hb t x k y=some ef):
 M8 P L hp nx E w ef (Instr.mapUpdate t vx vk vy):=by
 obtain⟨d,hd,h1⟩:=aa h
 cases d with
 |
  map kt e=>
  obtain⟨kk,hkk,h2⟩:=aa h1
  obtain⟨hkt,h3⟩:=ah h2
  subst hkt
  have hck:∀em,(Instr.checkKey em 10000 kt vk).run P w= .ok () w:=fun em=>dH (d:=9997) hk hkk
  obtain⟨dk,hdk,_⟩:=aa hkk
  rcases jT h3 with⟨b,rfl,h4⟩|⟨_,h4⟩
  ·obtain⟨bl,hbl,h5⟩:=aa h4
   obtain⟨es,ck,rfl,h6⟩:=fW h5
   obtain⟨q,hq,h7⟩:=aa h6
   obtain⟨SD,hes',h8⟩:=aa h7
   simp only[RV] at hx
   obtain⟨g,hg,rfl⟩:=hx
   obtain⟨l,hl,hre⟩:=oe hH (hB b _ hbl) hg
   obtain⟨f1,f2⟩:=pC (P:=P) (w:=w) hdk hk hre hq
   intro hL
   cases q with
   |
    none=>
    obtain⟨a1,a2,a3⟩:=f1 rfl
    have h8:(fN (Nat.succ ck) fun ck'=>some (bw.ch .un b (.m SD ck')))=some ef:=h8
    rw[cj] at h8
    cases h8
    have hrb:RB E b (.m SD (ck+1)) (.map (l.push {key:=vk,val:=vy,born:=ck}) (ck+1)):=⟨_,rfl,by simpa using a3 y vy ck SD hy hes'⟩
    obtain⟨s1,s2⟩:=hH.change (nx:=nx) (k:=.m SD (ck+1)) (hB b _ hbl) hg {w with heap:=w.heap.setIfInBounds g (.map (l.push {key:=vk,val:=vy,born:=ck}) (ck+1))} rfl rfl (Tp.r rfl rfl) rfl hrb
    refine⟨_,E,?_,by simp[bw.val,RV],s1,hF,s2⟩
    simp only[Instr.mapUpdate,Sem.run_bind,ar hd,Result.andThen_ok,fu hl,hck,gB hdk (a1 0) (a2 0),mJ _ hl]
   |
    some z=>
    cases(show some (bw.ch .un b (.m SD ck))=some ef from h8)
    obtain⟨j,e',b1,b2,b3,b4,b5,b6,b7⟩:=f2 z rfl
    have hj:l[j]? =some e':=by simpa using b1
    have hrb:RB E b (.m SD ck) (.map (l.modify j fun e=>{e with key:=vk,val:=vy}) ck):=⟨_,rfl,by simpa using b7 y vy ck SD hy hes'⟩
    obtain⟨s1,s2⟩:=hH.change (nx:=nx) (k:=.m SD ck) (hB b _ hbl) hg {w with heap:=w.heap.setIfInBounds g (.map (l.modify j fun e=>{e with key:=vk,val:=vy}) ck)} rfl rfl (Tp.r rfl rfl) rfl hrb
    refine⟨_,E,?_,by simp[bw.val,RV],s1,hF,s2⟩
    have hkeep:(Instr.keyThatStays vk vk).run P w= .ok vk w:=by simp[Instr.keyThatStays,b4]
    simp only[Instr.mapUpdate,Sem.run_bind,ar hd,Result.andThen_ok,fu hl,hck,gB hdk (b5 0) (b6 0),Nat.zero_add,hj,Option.map_some,Option.getD_some,b3,hkeep,mJ _ hl]
  ·cases h4
 |_=>cases h1
theorem yn{L:Nat}{hp:T aj}{nx:Id}(hH:RH E hp w)(hF:bI L nx E){t:TypeId}{r:Option V}{vr:Option Value}(hr:RO E r vr){ef:bw}(h:zy P nx t r=some ef):
 pD P L hp nx E w ef (Instr.makeMap t vr):=by
 have hef:ef= .nw (.m nx) (.m .nil 0)∧(∀x,r=some x→∃k n kt vt,x= .i k n∧P.underlying t=some (.map kt vt)):=by
  cases r with
  |none=>cases(show some (bw.nw (.m nx) (.m .nil 0))=some ef from h);exact⟨rfl,fun x hx=>by cases hx⟩
  |
   some x=>
   obtain⟨k,n,hxe,h1⟩:=aT (show(x.int fun _ _=>bO (P.underlying t) fun d=>match d with
    | .map _ _=>some (bw.nw (.m nx) (.m .nil 0))
    |_=>none)=some ef from h)
   obtain⟨d,hd,h2⟩:=aa h1
   cases d with
   |
    map kt vt=>
    cases h2
    exact⟨rfl,fun y hy=>by cases hy;exact⟨k,n,kt,vt,hxe,hd⟩⟩
   |_=>cases h2
 obtain⟨hef,hint⟩:=hef
 subst hef
 intro hL
 have hL:num (jR nx)≤L:=hL
 rw[bk] at hL
 obtain⟨E',hE'⟩:∃E':Env,E'=⟨fun b=>if b=nx then some w.heap.size else E.g b,fun b=>if b=nx then 0 else E.n b⟩:=⟨_,rfl⟩
 obtain⟨a1,a2,a3,a4,a5⟩:=hH.fresh hF (by omega) (k:=.m .nil 0) (o:=.map #[] 0) (n:=0) (w.alloc (.map #[] 0)) rfl rfl (Tp.r rfl rfl) rfl E' hE' ⟨#[],rfl,rfl⟩
 refine⟨.map (some w.heap.size),_,E',?_,by show RV E' (.m nx) _;simp only[RV];exact⟨_,a5,rfl⟩,a1,a2,a3⟩
 cases r with
 |
  none=>
  cases vr with
  |none=>simp[Instr.makeMap]
  |some v=>exact hr.elim
 |
  some x=>
  cases vr with
  |none=>exact hr.elim
  |
   some v=>
   obtain⟨k,n,kt,vt,rfl,ht⟩:=hint x rfl
   have hr:RV E (.i k n) v:=hr
   simp only[RV] at hr
   subst hr
   simp[Instr.makeMap,ar ht,asInt,asIntOf]
theorem uH{L:Nat}{hp:T aj}{nx:Id}(hH:RH E hp w)(hF:bI L nx E){t:TypeId}{x y:V}{vx vy:Value}(hx:RV E x vx)(hy:RV E y vy){ef:bw}(h:sX P nx t x y=some ef):
 pD P L hp nx E w ef (Instr.makeSlice t vx vy):=by
 obtain⟨d,hd,h1⟩:=aa h
 cases d with
 |
  slice e=>
  obtain⟨i,hi,h2⟩:=aa h1
  obtain⟨k1,n1,rfl,h3⟩:=aT h2
  obtain⟨l,rfl,h4⟩:=gF h3
  obtain⟨k2,n2,rfl,h5⟩:=aT h4
  obtain⟨c,rfl,h6⟩:=gF h5
  obtain⟨hlc,h7⟩:=ah h6
  obtain⟨hc,h8⟩:=ah h7
  obtain⟨hbt,h9⟩:=ah h8
  obtain⟨r,hr,SW⟩:=aa h9
  rw[kF] at SW
  cases SW
  simp only[RV] at hx hy
  subst hx;subst hy
  have hlc:=Nat.le_of_ble_eq_true hlc
  have hc:=Nat.le_of_ble_eq_true hc
  have hbt:=Nat.le_of_ble_eq_true hbt
  intro hL
  obtain⟨z,z1,z2,z3⟩:=z8 (E:=E) hr w
  obtain⟨E',a1,a2,a3,a4,a5,a6,a7⟩:=kV (P:=P) hH hF hL e z2 z3
  refine⟨.slice (some ⟨w.heap.size,0,none⟩) l c,_,E',?_,by show RV E' (.sl nx 0 l c) _;simp only[RV];exact⟨_,a2,rfl⟩,a5,a6,a7⟩
  have hprod:i.bytes*c≤100000*1000000:=Nat.mul_le_mul hbt hc
  have hw:∀m:Nat,m≤1000000→IntKind.i64.wrap (m:Int)=(m:Int):=by
   intro m hm
   rw[←gE]
   have:IntKind.wrap .i64 (m:Int)=m:=by
    simp only[IntKind.wrap,IntKind.signed,IntKind.bits]
    first
     |omega
     |(simp;omega)
   rw[gE];exact this
  have e1:=hw l (by omega)
  have e2:=hw c hc
  have ncond:¬((decide ((c:Int)<0)||decide ((i.bytes:Int)*(c:Int)>2^48))||decide ((l:Int)<0)||decide ((l:Int)>(c:Int)))=true:=by
   simp only[Bool.or_eq_true,decide_eq_true_eq,not_or]
   refine⟨⟨⟨by omega,?_⟩,by omega⟩,by omega⟩
   have h0:((i.bytes*c:Nat):Int)≤((100000000000:Nat):Int):=Int.ofNat_le.2 hprod
   rw[Int.natCast_mul] at h0
   have h1:(2:Int)^48=281474976710656:=by decide
   rw[h1]
   omega
  have SC:(askRoom (c*i.bytes)).run P w= .ok () w:=by
   unfold askRoom
   split
   ·rfl
   ·rfl
  simp only[Instr.makeSlice,Sem.run_bind,ar hd,Result.andThen_ok,asInt,asIntOf,Sem.run_pure,jn hi,Int.ofNat_eq_natCast,e1,e2,if_neg ncond,Int.toNat_natCast,SC,aU hi]
  rcases z1 with⟨y1,y2⟩|⟨y1,v,y2,y3⟩
  ·subst y2
   simp only[if_pos y1,Sem.run_pure,Result.andThen_ok,Sem.run_bind,a1]
  ·subst y3
   simp only[if_neg y1,Sem.run_pure,Result.andThen_ok,Sem.run_bind,y2,a1]
 |_=>cases h1
end
end Go.Cm
namespace Go.Cm
section
variable{P:Program} {E:Env} {w:World}
theorem yo{L:Nat}{hp:T aj}{nx:Id}{hb:Id→Option aj}(hH:RH E hp w)(hF:bI L nx E)(hB:∀b k,hb b=some k→get b hp=some k){t:TypeId}{x:V}{vx:Value}(hx:RV E x vx){ef:bw}(h:zA P hb nx t x=some ef):
 pD P L hp nx E w ef (Instr.range t vx):=by
 obtain⟨d,hd,h1⟩:=aa h
 cases d with
 |
  map kt vt=>
  have fin:∀(k:aj)(o:Obj)(v:Value),(∀E':Env,E.le E'→RB E' nx k o)→ef= .nw (.p nx 0) k→(Instr.range t v).run P w= .ok (.pointer (some ⟨w.heap.size,0,none⟩)) (w.alloc o)→pD P L hp nx E w ef (Instr.range t v):=by
   intro k o v hk he Ss hL
   subst he
   have hL:num (jR nx)≤L:=hL
   rw[bk] at hL
   obtain⟨E',hE'⟩:∃E':Env,E'=⟨fun b=>if b=nx then some w.heap.size else E.g b,fun b=>if b=nx then 0 else E.n b⟩:=⟨_,rfl⟩
   have hle:E.le E':=by
    intro b g hb
    have R7:b≠nx:=fun e'=>by subst e';rw[hF b (Nat.le_refl _) (by omega)] at hb;cases hb
    subst hE'
    exact⟨by simp only[if_neg R7];exact hb,by simp only[if_neg R7]⟩
   obtain⟨a1,a2,a3,a4,a5⟩:=hH.fresh hF (by omega) (k:=k) (o:=o) (n:=0) (w.alloc o) rfl rfl (Tp.r rfl rfl) rfl E' hE' (hk E' hle)
   exact⟨_,_,E',Ss,by show RV E' (.p nx 0) _;simp only[RV];exact⟨_,a5,rfl⟩,a1,a2,a3⟩
  rcases jT h1 with⟨b,rfl,h2⟩|⟨rfl,h2⟩
  ·obtain⟨bl,hbl,h3⟩:=aa h2
   obtain⟨es,ck,rfl,h4⟩:=fW h3
   simp only[RV] at hx
   obtain⟨g,hg,rfl⟩:=hx
   obtain⟨l,hl,hre⟩:=oe hH (hB b _ hbl) hg
   refine fin (.it (some b) ck [] ck) (.mapIter (some g) ck #[] ck) _ (fun E' hle=>⟨g,(hle b g hg).1,rfl⟩) (Option.some.inj h4).symm ?_
   simp[Instr.range,ar hd,fu hl]
  ·simp only[RV] at hx
   subst hx
   refine fin (.it none 0 [] 0) (.mapIter none 0 #[] 0) _ (fun E' hle=>rfl) (Option.some.inj h2).symm ?_
   simp[Instr.range,ar hd]
 |_=>cases h1
theorem CN{α:Type}{k:aj}{f:Option Id→Nat→List Nat→Nat→Option α}{y:α}(h:k.Qi f=some y):∃m a s l,k= .it m a s l∧f m a s l=some y:=by
 cases k<;>first|exact⟨_,_,_,_,rfl,h⟩|cases h
theorem zJ(n:Nat):∀l:List Nat,uz n l=decide (n∈l)
 |[]=>by simp[uz]
 |
  a::l=>by
  show@Bool.rec (fun _=>Bool) (uz n l) true (Nat.beq a n)=_
  rw[zJ n l,uV]
  by_cases h:a=n
  ·subst h;simp
  ·have h':¬n=a:=fun e=>h e.symm
   simp[h,h']
theorem s9{seen:List Nat}:∀{es:Es}{l:List MapEntry},tA E es l→tA E (nW seen es) (l.filter fun e=> !seen.contains e.born)
 | .nil,l,h=>by have h:l= []:=h;subst h;rfl
 |
  .cons k v n es,l,⟨e,r,hl,h1,h2,h3,h4⟩=>by
  subst hl
  have ih:=s9 (seen:=seen) h4
  show tA E (@Bool.rec (fun _=>Es) (.cons k v n (nW seen es)) (nW seen es) (uz n seen)) _
  rw[zJ]
  by_cases hm:n∈seen
  ·simp only[hm,decide_true]
   rw[List.filter_cons_of_neg (by simp[h3,hm])];exact ih
  ·simp only[hm,decide_false]
   rw[List.filter_cons_of_pos (by simp[h3,hm])]
   exact⟨e,_,rfl,h1,h2,h3,ih⟩
theorem wK{n:Nat}:∀{es:Es}{l:List MapEntry},tA E es l→zB n es=true→¬(l.all fun e=>decide (e.born≥n))=true
 | .nil,l,h,ho=>by cases ho
 |
  .cons k v b es,l,⟨e,r,hl,h1,h2,h3,h4⟩,ho=>by
  subst hl
  have ho:@Bool.rec (fun _=>Bool) (zB n es) true (Nat.ble (Nat.succ b) n)=true:=ho
  simp only[List.all_cons,Bool.and_eq_true,decide_eq_true_eq,not_and]
  intro hge
  cases hb:Nat.ble (Nat.succ b) n with
  |true=>have:=Nat.le_of_ble_eq_true hb;omega
  |false=>rw[hb] at ho;exact wK h4 ho
theorem AT{seen:List Nat}{last:Nat}{es:Es}{l:Array MapEntry}(hre:tA E es l.toList)(h:yi seen last es=true):¬((!seen.toArray.isEmpty&& !l.isEmpty&&l.all (·.born≥last))=true):=by
 cases seen with
 |nil=>simp
 |
  cons a s=>
  cases es with
  |
   nil=>
   have:l.toList= []:=hre
   have:l= #[]:=Array.ext' this
   subst this;simp
  |
   cons k v n es=>
   have:=wK hre (show zB last (.cons k v n es)=true from h)
   simp only[Bool.and_eq_true,not_and]
   intro _ hh
   apply this
   rw[←hh];simp
theorem AU{L:Nat}{hp:T aj}{nx:Id}{hb:Id→Option aj}(hH:RH E hp w)(hF:bI L nx E)(hB:∀b k,hb b=some k→get b hp=some k){x:V}{vx:Value}{str:Bool}{ty:TypeId}(hx:RV E x vx){ef:bw}(h:Cv hb x str=some ef):
 pD P L hp nx E w ef (Instr.next vx str ty):=by
 obtain⟨hs,h1⟩:=ah h
 have hs:str=false:=by cases str;rfl;cases hs
 subst hs
 obtain⟨b,o,rfl,h2⟩:=eA h1
 obtain⟨ho,h3⟩:=ah h2
 have ho:=bg ho
 subst ho
 obtain⟨bl,hbl,h4⟩:=aa h3
 obtain⟨m,since,seen,last,rfl,h5⟩:=CN h4
 simp only[RV] at hx
 obtain⟨g,hg,rfl⟩:=hx
 obtain⟨g',ob,e1,e2,e3⟩:=hH.bh b _ (hB b _ hbl)
 rw[hg] at e1;cases e1
 have over:RV E (.bU (.cons (.b false) .nil)) (.tuple #[.bool false]):=by
  simp only[RV]
  exact⟨_,rfl,aH.aw.2 ⟨_,_,rfl,by simp only[RV],by simp[aH]⟩⟩
 cases m with
 |
  none=>
  cases(show some (bw.v (.bU (.cons (.b false) .nil)))=some ef from h5)
  have e3:ob= .mapIter none since seen.toArray last:=e3
  subst e3
  refine pD.same hH hF (v:=.tuple #[.bool false]) ?_ over
  simp[Instr.next,getObj,Sem.run,e2]
 |
  some mb=>
  obtain⟨gm,hgm,rfl⟩:=e3
  obtain⟨ml,hml,h6⟩:=aa (show(bO (hb mb) fun ml=>ml.uZ fun es ck=>bf (yi seen last es) (
   @Es.casesOn (fun _=>Option bw) (nW seen es) (some (.v (.bU (.cons (.b false) .nil))))
    (fun k v n l=>@Es.casesOn (fun _=>Option bw) l (bf (Nat.ble (Nat.succ n) since) (some (.ch (.bU (.cons (.b true) (.cons k (.cons v .nil)))) b (.it (some mb) since (seen++[n]) ck)))) (fun _ _ _ _=>none))))=some ef from h5)
  obtain⟨es,ck,rfl,h7⟩:=fW h6
  obtain⟨R9,h8⟩:=ah h7
  obtain⟨l,hl,hre⟩:=oe hH (hB mb _ hml) hgm
  have hleft:=s9 (seen:=seen) hre
  have hno:=AT hre R9
  have SY:(getObj g).run P w= .ok (.mapIter (some gm) since seen.toArray last) w:=by simp[getObj,Sem.run,e2]
  have hfil:l.filter (fun e=> !seen.toArray.contains e.born)=(l.toList.filter fun e=> !seen.contains e.born).toArray:=by
   apply Array.ext'
   simp
  cases hq:nW seen es with
  |
   nil=>
   rw[hq] at h8 hleft
   cases(show some (bw.v (.bU (.cons (.b false) .nil)))=some ef from h8)
   have hnil:(l.toList.filter fun e=> !seen.contains e.born)= []:=hleft
   refine pD.same hH hF (v:=.tuple #[.bool false]) ?_ over
   simp only[Instr.next,Sem.run_bind,SY,Result.andThen_ok,fu hl,if_neg hno]
   rw[hfil,hnil]
   simp[choose,Sem.run,Question.forced]
  |
   cons k v n SD=>
   rw[hq] at h8 hleft
   cases SD with
   |cons _ _ _ _=>cases h8
   |
    nil=>
    obtain⟨hn,h9⟩:=ah (show bf (Nat.ble (Nat.succ n) since) (some (bw.ch (.bU (.cons (.b true) (.cons k (.cons v .nil)))) b (.it (some mb) since (seen++[n]) ck)))=some ef from h8)
    cases h9
    have hn:=Nat.le_of_ble_eq_true hn
    obtain⟨e,r,hl1,q1,q2,q3,q4⟩:=hleft
    have q4:r= []:=q4
    subst q4
    intro hL
    have hrb:RB E b (.it (some mb) since (seen++[n]) ck) (.mapIter (some gm) since (seen.toArray.push e.born) ck):=⟨gm,hgm,by rw[q3];simp⟩
    obtain⟨s1,s2⟩:=hH.change (nx:=nx) (k:=.it (some mb) since (seen++[n]) ck) (hB b _ hbl) hg {w with heap:=w.heap.setIfInBounds g (.mapIter (some gm) since (seen.toArray.push e.born) ck)} rfl rfl (Tp.r rfl rfl) rfl hrb
    refine⟨.tuple #[.bool true,e.key,e.val],_,E,?_,?_,s1,hF,s2⟩
    ·have aA:∀o,(setObj g o).run P w= .ok () {w with heap:=w.heap.setIfInBounds g o}:=fun o=>by simp[setObj,Sem.run,e2]
     simp only[Instr.next,Sem.run_bind,SY,Result.andThen_ok,fu hl,if_neg hno]
     rw[hfil,hl1]
     have Sg:e.born<since:=by omega
     have hge:¬since≤e.born:=by omega
     simp[Sg,hge,choose,Sem.run,Question.forced,aA]
    ·show RV E (.bU _) _
     simp only[RV]
     exact⟨_,rfl,aH.aw.2 ⟨_,_,rfl,by simp only[RV],aH.aw.2 ⟨_,_,rfl,q1,aH.aw.2 ⟨_,_,rfl,q2,by simp[aH]⟩⟩⟩⟩
theorem EM{x:V}{v:Value}{n:Nat}(hx:RV E x v)(h:Jt x=some n):(Builtin.lenOf v).run P w= .ok n w∧∃a c,v= .slice a n c:=by
 unfold Jt at h
 cases hse:x.rp with
 |
  true=>
  rw[hse] at h
  cases(show some 0=some n from h)
  have:=kS hse;subst this
  simp only[RV] at hx
  obtain⟨a,c,rfl⟩:=hx
  exact⟨rfl,_,_,rfl⟩
 |
  false=>
  rw[hse] at h
  rcases cu h with⟨b,o,n',c,rfl,h1⟩|⟨b,o,n',z,rfl,h1⟩|⟨rfl,h1⟩
  ·cases h1;simp only[RV] at hx;obtain⟨g,_,rfl⟩:=hx;exact⟨rfl,_,_,rfl⟩
  ·cases h1;simp only[RV] at hx;obtain⟨g,c,_,rfl,_⟩:=hx;exact⟨rfl,_,_,rfl⟩
  ·cases h1;simp only[RV] at hx;subst hx;exact⟨rfl,_,_,rfl⟩
theorem EN{hp:T aj}{hb:Id→Option aj}(hH:RH E hp w)(hB:∀b k,hb b=some k→get b hp=some k){x c:V}{v:Value}{m size:Nat}(hx:RV E x v)(h:Ju hb (Nat.mul m size) x=some c):
 ∃cs:Array Value,(Builtin.firstCells size m v).run P w= .ok cs w∧aH E c cs.toList∧c.bK=true:=by
 have row:∀(b:Id)(o g:Nat)(n cap:Nat),E.g b=some g→(bO (hb b) fun k=>k.cells fun l=>bY o (Nat.mul m size) l)=some c→
  ∃cs:Array Value,(Builtin.firstCells size m (.slice (some ⟨g,o,none⟩) n cap)).run P w= .ok cs w∧aH E c cs.toList∧c.bK=true:=by
  intro b o g n cap hg h
  obtain⟨k,hk,h1⟩:=aa h
  obtain⟨l,e,hke,h2⟩:=bG h1
  obtain⟨g',ob,e1,e2,e3⟩:=hH.bh b k (hB b k hk)
  rw[hg] at e1;cases e1
  obtain⟨cs,fz,xs,ys,rfl,q1,q2,q3,q4,q5,_⟩:=RB.cells hke e3
  obtain⟨n1,n2,n3⟩:=gX q2 h2
  have n1:o+m*size≤xs.length:=n1
  have Sd:o+m*size≤cs.size:=by
   have:=congrArg List.length q1
   simp at this;omega
  have he:(cs.toList.drop o).take (m*size)=(xs.drop o).take (m*size):=by
   rw[q1,List.drop_append_of_le_length (by omega),List.take_append_of_le_length (by simp;omega)]
  exact⟨_,fV e2 Sd,by simpa[he] using n2,n3 q3⟩
 unfold Ju at h
 cases hse:x.rp with
 |
  true=>
  rw[hse] at h
  obtain⟨hz,h1⟩:=ah (show bf (Nat.beq (Nat.mul m size) 0) (some V.nil)=some c from h)
  cases h1
  have hz:m*size=0:=bg hz
  have:=kS hse;subst this
  simp only[RV] at hx
  obtain⟨a,c,rfl⟩:=hx
  exact⟨#[],by simp[Builtin.firstCells,hz,loadCells,loadCellsFrom],by simp[aH],rfl⟩
 |
  false=>
  rw[hse] at h
  rcases cu h with⟨b,o,n',c',rfl,h1⟩|⟨b,o,n',z,rfl,h1⟩|⟨rfl,h1⟩
  ·simp only[RV] at hx;obtain⟨g,hg,rfl⟩:=hx;exact row b o g _ _ hg h1
  ·simp only[RV] at hx;obtain⟨g,c',hg,rfl,_⟩:=hx;exact row b o g _ _ hg h1
  ·obtain⟨hz,h2⟩:=ah h1
   cases h2
   simp only[RV] at hx;subst hx
   exact⟨#[],by simp[Builtin.firstCells],by simp[aH],rfl⟩
theorem nM{L:Nat}{hp:T aj}{nx:Id}{hb:Id→Option aj}(hH:RH E hp w)(hF:bI L nx E)(hB:∀b k,hb b=some k→get b hp=some k){t t2 ty:TypeId}{x y:V}{vx vy:Value}(hx:RV E x vx)(hy:RV E y vy){ef:bw}(h:nL P hb t x y=some ef):
 pD P L hp nx E w ef (Builtin.copy_ #[t,t2] ty #[vx,vy]):=by
 obtain⟨d,hd,h1⟩:=aa h
 cases d with
 |
  slice e=>
  obtain⟨i,hi,h2⟩:=aa h1
  obtain⟨n,hn,h3⟩:=aa h2
  obtain⟨hlen,_⟩:=EM (P:=P) (w:=w) hy hn
  have done:∀(b:Id)(o l cap g:Nat),E.g b=some g→mF hb i.size n y b o l=some ef→pD P L hp nx E w ef (Builtin.copy_ #[t,t2] ty #[.slice (some ⟨g,o,none⟩) l cap,vy]):=by
   intro b o l cap g hg h4
   unfold mF at h4
   rw[cj] at h4
   obtain⟨m,hm⟩:∃m,m=@Bool.rec (fun _=>Nat) l n (Nat.ble n l):=⟨_,rfl⟩
   rw[←hm] at h4
   have hmin:Nat.min n l=m:=by
    rw[hm,uW]
    by_cases hc:n≤l
    ·simp[hc]
    ·simp[hc,Nat.min_def]
   obtain⟨k,hk,h5⟩:=aa h4
   obtain⟨ol,e',hke,h6⟩:=bG h5
   obtain⟨c,hc,h7⟩:=aa h6
   obtain⟨l',hl',h8⟩:=aa h7
   cases h8
   obtain⟨src,s1,s2,s3⟩:=EN (P:=P) (w:=w) hH hB hy hc
   obtain⟨g',ob,e1,e2,e3⟩:=hH.bh b k (hB b k hk)
   rw[hg] at e1;cases e1
   obtain⟨cs,fz,xs,ys,rfl,q1,q2,q3,q4,q5,q6⟩:=RB.cells hke e3
   obtain⟨n1,n2,n3⟩:=mT s2 q2 hl'
   have Sd:xs.length+ys.length=cs.size:=by have:=congrArg List.length q1;simp at this;omega
   obtain⟨SE,r1,r2⟩:=gZ (P:=P) (o:=o) (i:=0) e2 (vs:=src.toList) (by omega) q4 (s2.mU s3)
   have hlen':SE.size=cs.size:=by
    have:=congrArg List.length r2
    simp at this n1;omega
   have hcs:SE.toList=(xs.take o++src.toList++xs.drop (o+src.toList.length))++ys:=by
    rw[r2,q1]
    simp only[Nat.add_zero]
    rw[List.take_append_of_le_length (by omega),List.drop_append_of_le_length (by omega)]
    simp
   have hrb:RB E b (k.br l') (.cells SE e' fz):=by
    rcases hke with rfl|rfl
    ·have:=q6 rfl;subst this
     rw[List.append_nil] at hcs
     exact⟨SE,fz,rfl,by rw[hcs];exact n2,n3 s3 q3,by rw[hlen'];exact q4,by rw[q5,hlen']⟩
    ·exact⟨SE,fz,_,ys,rfl,hcs,n2,n3 s3 q3,by rw[hlen'];exact q4,by rw[q5,hlen']⟩
   intro hL
   obtain⟨t1,t2⟩:=hH.change (nx:=nx) (k:=k.br l') (hB b k hk) hg (w.br g (.cells SE e' fz)) rfl rfl (Tp.r rfl rfl) rfl hrb
   refine⟨goInt m,_,E,?_,by show RV E (.i .i64 (.ofNat m)) _;simp only[RV];rfl,t1,hF,t2⟩
   simp[Builtin.copy_,ar hd,hlen,aU hi,hmin,s1,r1]
  rcases cu h3 with⟨b,o,l,c,rfl,h4⟩|⟨b,o,l,z,rfl,h4⟩|⟨_,h4⟩
  ·simp only[RV] at hx;obtain⟨g,hg,rfl⟩:=hx;exact done b o l c g hg h4
  ·simp only[RV] at hx;obtain⟨g,c,hg,rfl,_⟩:=hx;exact done b o l c g hg h4
  ·cases h4
 |_=>cases h1
end
end Go.Cm
namespace Go.Cm
section
variable{P:Program} {E:Env} {w:World}
theorem yp{L:Nat}{hp:T aj}{nx:Id}{hb:Id→Option aj}(hH:RH E hp w)(hF:bI L nx E)(hB:∀b k,hb b=some k→get b hp=some k){t:TypeId}{x k:V}{vx vk:Value}(hx:RV E x vx)(hk:RV E k vk){ef:bw}(h:zC P hb t x k=some ef):
 pD P L hp nx E w ef (Instr.mapEntry t vx vk):=by
 obtain⟨d,hd,h1⟩:=aa h
 cases d with
 |
  map kt e=>
  obtain⟨kk,hkk,h2⟩:=aa h1
  obtain⟨hkt,h3⟩:=ah h2
  subst hkt
  have hck:∀em,(Instr.checkKey em 10000 kt vk).run P w= .ok () w:=fun em=>dH (d:=9997) hk hkk
  obtain⟨dk,hdk,_⟩:=aa hkk
  rcases jT h3 with⟨b,rfl,h4⟩|⟨_,h4⟩
  ·obtain⟨bl,hbl,h5⟩:=aa h4
   obtain⟨es,ck,rfl,h6⟩:=fW h5
   obtain⟨q,hq,h7⟩:=aa h6
   simp only[RV] at hx
   obtain⟨g,hg,rfl⟩:=hx
   obtain⟨l,hl,hre⟩:=oe hH (hB b _ hbl) hg
   obtain⟨f1,f2⟩:=pC (P:=P) (w:=w) hdk hk hre hq
   intro hL
   cases q with
   |
    none=>
    obtain⟨z,hz,h8⟩:=aa (show(bO (zeroV P e) fun z=>bO (lu P kt k z ck es) fun SD=>fN (Nat.succ ck) fun ck'=>some (bw.ch (.bU (.cons z (.cons (.i .i64 (Int.ofNat ck)) .nil))) b (.m SD ck')))=some ef from h7)
    obtain⟨SD,hes',h9⟩:=aa h8
    rw[cj] at h9
    cases h9
    obtain⟨vz,z1,z2⟩:=jo (P:=P) (E:=E) (w:=w) hz
    obtain⟨a1,a2,a3⟩:=f1 rfl
    have hrb:RB E b (.m SD (ck+1)) (.map (l.push {key:=vk,val:=vz,born:=ck}) (ck+1)):=⟨_,rfl,by simpa using a3 z vz ck SD z2 hes'⟩
    obtain⟨s1,s2⟩:=hH.change (nx:=nx) (k:=.m SD (ck+1)) (hB b _ hbl) hg {w with heap:=w.heap.setIfInBounds g (.map (l.push {key:=vk,val:=vz,born:=ck}) (ck+1))} rfl rfl (Tp.r rfl rfl) rfl hrb
    refine⟨.tuple #[vz,goInt (ck:Int)],_,E,?_,⟨_,rfl,vz,_,rfl,z2,_,_,rfl,rfl,rfl⟩,s1,hF,s2⟩
    simp only[Instr.mapEntry,Sem.run_bind,ar hd,Result.andThen_ok,fu hl,hck,gB hdk (a1 0) (a2 0),z1,mJ _ hl,Sem.run_pure]
   |some y=>cases h7
  ·cases h4
 |_=>cases h1
theorem CO{n:Nat}{y:V}{vy:Value}(hy:RV E y vy):∀{es:Es}{l:List MapEntry}{SD:Es},tA E es l→zD n y es=some SD→
 ∃j,l.findIdx? (fun e=>(e.born:Int)==(n:Int))=some j∧tA E SD (l.modify j fun e=>{e with val:=vy})
 | .nil,_,_,_,h=>by cases h
 |
  .cons k v n' es,l,SD,⟨e,r,h1,h2,h3,h4,h5⟩,h=>by
  subst h1
  have h:@Bool.rec (fun _=>Option Es) (bO (zD n y es) fun r=>some (.cons k v n' r)) (some (.cons k y n' es)) (Nat.beq n' n)=some SD:=h
  cases hb:Nat.beq n' n with
  |
   true=>
   rw[hb] at h
   cases(show some (Es.cons k y n' es)=some SD from h)
   have hn:n'=n:=Nat.eq_of_beq_eq_true hb
   refine⟨0,?_,?_⟩
   ·rw[List.findIdx?_cons,if_pos (by rw[h4,hn];exact beq_self_eq_true _)]
   ·exact⟨_,_,rfl,h2,hy,h4,h5⟩
  |
   false=>
   rw[hb] at h
   obtain⟨es2,h6,h7⟩:=aa (show(bO (zD n y es) fun r=>some (Es.cons k v n' r))=some SD from h)
   cases h7
   obtain⟨j,j1,j2⟩:=CO hy h5 h6
   refine⟨j+1,?_,?_⟩
   ·have R7:n'≠n:=fun e=>by rw[e] at hb;rw[show Nat.beq n n=true from Nat.beq_refl n] at hb;cases hb
    rw[List.findIdx?_cons,if_neg (by rw[h4];simp only[beq_iff_eq];omega),j1];rfl
   ·exact⟨_,_,rfl,h2,h3,h4,j2⟩
theorem CP{L:Nat}{hp:T aj}{nx:Id}{hb:Id→Option aj}(hH:RH E hp w)(hF:bI L nx E)(hB:∀b k,hb b=some k→get b hp=some k){t:TypeId}{x s y:V}{vx vs vy:Value}(hx:RV E x vx)(hs:RV E s vs)(hy:RV E y vy){ef:bw}(h:Im hb x s y=some ef):
 M8 P L hp nx E w ef (Instr.entryStore t vx vs vy):=by
 rcases jT h with⟨b,rfl,h4⟩|⟨_,h4⟩
 ·obtain⟨bl,hbl,h5⟩:=aa h4
  obtain⟨es,ck,rfl,h6⟩:=fW h5
  obtain⟨k,n,rfl,h7⟩:=aT h6
  obtain⟨m,rfl,h8⟩:=gF h7
  obtain⟨SD,hes',h9⟩:=aa h8
  cases h9
  simp only[RV] at hx hs
  obtain⟨g,hg,rfl⟩:=hx
  subst hs
  obtain⟨l,hl,hre⟩:=oe hH (hB b _ hbl) hg
  obtain⟨j,j1,j2⟩:=CO hy hre hes'
  intro hL
  have hrb:RB E b (.m SD ck) (.map (l.modify j fun e=>{e with val:=vy}) ck):=⟨_,rfl,by simpa using j2⟩
  obtain⟨s1,s2⟩:=hH.change (nx:=nx) (k:=.m SD ck) (hB b _ hbl) hg {w with heap:=w.heap.setIfInBounds g (.map (l.modify j fun e=>{e with val:=vy}) ck)} rfl rfl (Tp.r rfl rfl) rfl hrb
  refine⟨_,E,?_,by simp[bw.val,RV],s1,hF,s2⟩
  have hfi:l.findIdx? (fun e=>(e.born:Int)==Int.ofNat m)=some j:=by
   cases l with
   |mk l=>simpa using j1
  simp only[Instr.entryStore,Sem.run_bind,Result.andThen_ok,fu hl,asInt,asIntOf,Sem.run_pure,hfi,mJ _ hl]
 ·cases h4
end
end Go.Cm
namespace Go.Cm
def GL(gl:List V)(hp:T aj)(E:Env)(w:World):Prop:=
 ∀g x,eK gl g=some x→¬Own hp E g∧∃l cs e fz,x= .agg l∧w.heap[g]? =some (.cells cs e fz)∧(∃xs ys,cs.toList=xs++ys∧∀E,aH E l xs)∧l.bK=true
theorem GL.step{gl:List V}{hp R0:T aj}{nx RY:Id}{E E':Env}{w w':World}(h:GL gl hp E w)(x:Ex hp nx E w R0 RY E' w'):GL gl R0 E' w':=by
 intro g y hy
 obtain⟨h1,l,cs,e,fz,h2,h3,h4⟩:=h g y hy
 have Sg:g<w.heap.size:=(Array.getElem?_eq_some_iff.1 h3).1
 refine⟨fun ho=>?_,l,cs,e,fz,h2,?_,h4⟩
 ·rcases x.own g ho with h|h
  ·exact h1 h
  ·omega
 ·rw[x.kept g Sg h1];exact h3
def rV(P:Program)(L:Nat)(hp:T aj)(nx:Id)(E:Env)(w:World)(e:bw)(s:Sem Next):Prop:=
 num (e.nx nx)≤L→∃n v w' E',s.run P w= .ok n w'∧(n= .value v∨(n= .skip∧v=undef))∧RV E' e.val v∧RH E' (e.hp nx hp) w'∧bI L (e.nx nx) E'∧Ex hp nx E w (e.hp nx hp) (e.nx nx) E' w'
section
variable{P:Program} {E:Env} {w:World} {L:Nat} {hp:T aj} {nx:Id}
theorem pD.n{e:bw}{s:Sem Value}(h:pD P L hp nx E w e s):rV P L hp nx E w e (do pure (.value (←s))):=by
 intro hL
 obtain⟨v,w',E',h1,h2⟩:=h hL
 exact⟨.value v,v,w',E',by simp[h1],Or.inl rfl,h2⟩
theorem M8.n{e:bw}{s:Sem Unit}(h:M8 P L hp nx E w e s):rV P L hp nx E w e (do s;pure .skip):=by
 intro hL
 obtain⟨w',E',h1,h2⟩:=h hL
 exact⟨.skip,undef,w',E',by simp[h1],Or.inr ⟨rfl,rfl⟩,h2⟩
theorem rV.same(hH:RH E hp w)(hF:bI L nx E){x:V}{s:Sem Next}{v:Value}(h1:s.run P w= .ok (.value v) w)(h2:RV E x v):rV P L hp nx E w (.v x) s:=
 fun _=>⟨.value v,v,w,E,h1,Or.inl rfl,h2,hH,hF,Ex.refl _ _ _ _⟩
theorem iF{x:Option V}{e:bw}(h:vE x=some e):∃v,x=some v∧e= .v v:=by
 obtain⟨v,h1,h2⟩:=aa h
 cases h2
 exact⟨v,h1,rfl⟩
theorem zK{gl:List V}{tm:T V}{a:Act}{hb:Id→Option aj}(hT:RT E tm a.tmps)(hH:RH E hp w)(hF:bI L nx E)(hB:∀b k,hb b=some k→get b hp=some k)(hG:GL gl hp E w){o:Oper}{f:EH}(hf:l8 P gl o.op= .mk f){e:bw}(h:f tm hb nx=some e):
 rV P L hp nx E w e (execOp a.eval o):=by
 have val:∀{r:Option V}{s:Sem Value},vE r=some e→(∀x,r=some x→∃v,s.run P w= .ok v w∧RV E x v)→rV P L hp nx E w e (do pure (.value (←s))):=by
  intro r s h1 h2
  obtain⟨x,h3,rfl⟩:=iF h1
  obtain⟨v,h4,h5⟩:=h2 x h3
  exact(pD.same hH hF h4 h5).n
 cases R5:o.op<;>simp only[l8,R5] at hf
 case move x=>
  cases hf
  obtain⟨y,h1,rfl⟩:=iF h
  exact rV.same hH hF (by simp[execOp,R5]) (aK hT h1)
 case assign x=>
  cases hf
  obtain⟨y,h1,rfl⟩:=iF h
  exact rV.same hH hF (by simp[execOp,R5]) (aK hT h1)
 case pick c x y=>
  cases hf
  obtain⟨cv,h1,h2⟩:=aa h
  obtain⟨b,rfl,h3⟩:=cT h2
  have hc:=aK hT h1
  simp only[RV] at hc
  cases b with
  |
   true=>
   obtain⟨z,h4,rfl⟩:=iF (show vE (eZ tm x)=some e from h3)
   exact rV.same hH hF (v:=a.eval x) (by simp[execOp,R5,asBool,hc]) (aK hT h4)
  |
   false=>
   obtain⟨z,h4,rfl⟩:=iF (show vE (eZ tm y)=some e from h3)
   exact rV.same hH hF (v:=a.eval y) (by simp[execOp,R5,asBool,hc]) (aK hT h4)
 case alloc t=>
  cases hf
  have:=(yz (P:=P) hH hF h (.tuple #[])).n
  simpa only[execOp,R5] using this
 case box t x=>
  cases hf
  obtain⟨y,h1,h2⟩:=aa h
  have:=(Dt (P:=P) hH hF (aK hT h1) h2).n
  simpa only[execOp,R5] using this
 case build t ps=>
  cases hf
  obtain⟨y,h1,h2⟩:=aa h
  have hps:=uC hT h1
  have:=val h2 (fun x hx=>yA (P:=P) (w:=w) (vs:=ps.map fun(i,x)=>(i,a.eval x)) (by simpa using hps) hx)
  simpa only[execOp,R5] using this
 case buildSlice t n ps=>
  cases hf
  obtain⟨y,h1,h2⟩:=aa h
  have hps:=uC hT h1
  have:=(pf (P:=P) (vs:=ps.map fun(i,x)=>(i,a.eval x)) hH hF (by simpa using hps) h2).n
  simpa only[execOp,R5] using this
 case load t x=>
  cases x with
  |
   global g=>
   cases hf
   obtain⟨y,h1,h2⟩:=aa h
   obtain⟨l,rfl,h3⟩:=cC h2
   obtain⟨d,hd,h4⟩:=aa h3
   obtain⟨hag,h5⟩:=ah h4
   obtain⟨i,hi,h6⟩:=aa h5
   obtain⟨Sd,h7⟩:=ah h6
   cases h7
   obtain⟨_,l',cs,e,fz,q1,q2,⟨xs,ys,q5,q3⟩,q4⟩:=hG g _ h1
   cases q1
   have hcs:xs.length=i.size:=by have:=(q3 E).len;rw[bg Sd] at this;exact this.symm
   have hle:i.size≤cs.size:=by
    have:=congrArg List.length q5
    simp at this;omega
   refine rV.same hH hF (v:=.agg xs.toArray) ?_ (by simp only[RV];exact⟨xs.toArray,rfl,by simpa using q3 E,q4⟩)
   have hl:=fV (P:=P) (w:=w) (o:=0) (n:=i.size) q2 (by omega)
   have hcut:((cs.toList.drop 0).take i.size).toArray=xs.toArray:=by
    rw[q5,←hcs];simp
   rw[hcut] at hl
   simp[execOp,R5,Act.eval,Instr.loadAt,Instr.sureAddr,loadVar,dq hd,hag,aU hi,hl]
  |
   _=>
   cases hf
   obtain⟨y,h1,h2⟩:=aa h
   have:=val h2 (fun x hx=>gS (P:=P) (w:=w) hH hB (aK hT h1) hx)
   simpa only[execOp,R5] using this
 case store t x y=>
  cases hf
  obtain⟨p,h1,h2⟩:=aa h
  obtain⟨v,h3,h4⟩:=aa h2
  obtain⟨r,h5,h6⟩:=aa h4
  cases h6
  have hU:M8 P L hp nx E w (.ch .un r.1 r.2) (Instr.storeAt t (a.eval x) (a.eval y)):=by
   intro hL
   obtain⟨w',s1,s2,s3⟩:=yy (P:=P) (nx:=nx) hH hB (aK hT h1) (aK hT h3) (b:=r.1) (k':=r.2) h5
   exact⟨w',E,s1,by simp[bw.val,RV],s2,hF,s3⟩
  have:=hU.n
  simpa only[execOp,R5] using this
 case nilCheck x=>
  cases hf
  obtain⟨y,h1,h2⟩:=aa h
  obtain⟨z,h3,rfl⟩:=iF h2
  obtain⟨q1,q2⟩:=rU (P:=P) (w:=w) R5 rfl (aK hT h1) h3
  subst q2
  exact rV.same hH hF q1 (aK hT h1)
 case binOp op t x y ty=>
  cases hf
  obtain⟨u,h1,h2⟩:=aa h
  obtain⟨v,h3,h4⟩:=aa h2
  obtain⟨z,h5,rfl⟩:=iF h4
  have hc:@Bool.rec (fun _=>Bool) (AM y) true (AM x)=true→AM x=true∨AM y=true:=by
   intro hh
   cases hx:AM x with
   |true=>exact Or.inl rfl
   |false=>rw[hx] at hh;exact Or.inr hh
  obtain⟨g1,r,g2,g3⟩:=qL (P:=P) (w:=w) (ox:=x) (oy:=y) hc (aK hT h1) (aK hT h3) h5
  exact rV.same hH hF (v:=r) (by simp[execOp,R5,g1,g2]) g3
 case unOp op t x=>
  cases hf
  obtain⟨u,h1,h2⟩:=aa h
  have:=val h2 (fun z hz=>uE (P:=P) (w:=w) (aK hT h1) hz)
  simpa only[execOp,R5] using this
 case convert s d x=>
  cases hf
  obtain⟨u,h1,h2⟩:=aa h
  have:=(od (P:=P) hH hF hB (aK hT h1) h2).n
  simpa only[execOp,R5] using this
 case makeInterface t x=>
  cases hf
  obtain⟨u,h1,h2⟩:=aa h
  have:=val h2 (fun z hz=>⟨_,yk (P:=P) (w:=w) (aK hT h1) hz⟩)
  simpa only[execOp,R5] using this
 case makeFunc fn fs cs=>
  cases fn with
  |
   func g=>
   cases hf
   obtain⟨u,h1,h2⟩:=aa h
   obtain⟨v,h3,h4⟩:=aa h2
   cases h4
   refine rV.same hH hF (v:=.func (.func g) (fs.map a.eval) (cs.map a.eval)) (by simp[execOp,R5,Instr.makeFunc]) ?_
   simp only[RV]
   exact⟨_,_,rfl,by simpa using eD hT h1,by simpa using eD hT h3⟩
  |_=>cases hf;cases h
 case makeMap t r=>
  cases hf
  obtain⟨u,h1,h2⟩:=aa h
  have:=(yn (P:=P) hH hF (uD hT h1) h2).n
  simpa only[execOp,R5] using this
 case makeSlice t l c=>
  cases hf
  obtain⟨u,h1,h2⟩:=aa h
  obtain⟨v,h3,h4⟩:=aa h2
  have:=(uH (P:=P) hH hF (aK hT h1) (aK hT h3) h4).n
  simpa only[execOp,R5] using this
 case slice t x lo hi mx=>
  cases mx with
  |
   none=>
   cases hf
   obtain⟨u,h1,h2⟩:=aa h
   obtain⟨v,h3,h4⟩:=aa h2
   obtain⟨z,h5,h6⟩:=aa h4
   have:=val h6 (fun y hy=>lR (P:=P) (w:=w) (aK hT h1) (uD hT h3) (uD hT h5) hy)
   simpa only[execOp,R5,Option.map_none] using this
  |some m=>cases hf;cases h
 case fieldAddr t x i=>
  cases hf
  obtain⟨u,h1,h2⟩:=aa h
  have:=val h2 (fun z hz=>hO (P:=P) (w:=w) (aK hT h1) hz)
  simpa only[execOp,R5] using this
 case field t x i=>
  cases hf
  obtain⟨u,h1,h2⟩:=aa h
  have:=val h2 (fun z hz=>yB (P:=P) (w:=w) (aK hT h1) hz)
  simpa only[execOp,R5] using this
 case indexAddr t x i=>
  cases hf
  obtain⟨u,h1,h2⟩:=aa h
  obtain⟨v,h3,h4⟩:=aa h2
  have:=val h4 (fun z hz=>ic (P:=P) (w:=w) (aK hT h1) (aK hT h3) hz)
  simpa only[execOp,R5] using this
 case index t x i=>
  cases hf
  obtain⟨u,h1,h2⟩:=aa h
  obtain⟨v,h3,h4⟩:=aa h2
  have:=val h4 (fun z hz=>lW (P:=P) (w:=w) (aK hT h1) (aK hT h3) hz)
  simpa only[execOp,R5] using this
 case lookup t x i ok=>
  cases hf
  obtain⟨u,h1,h2⟩:=aa h
  obtain⟨v,h3,h4⟩:=aa h2
  have:=val h4 (fun z hz=>kr (P:=P) (w:=w) hH hB (aK hT h1) (aK hT h3) hz)
  simpa only[execOp,R5] using this
 case mapUpdate t m k x=>
  cases hf
  obtain⟨u,h1,h2⟩:=aa h
  obtain⟨v,h3,h4⟩:=aa h2
  obtain⟨z,h5,h6⟩:=aa h4
  have:=(oO (P:=P) hH hF hB (aK hT h1) (aK hT h3) (aK hT h5) h6).n
  simpa only[execOp,R5] using this
 case insert t m k x=>
  cases hf
  obtain⟨u,h1,h2⟩:=aa h
  obtain⟨v,h3,h4⟩:=aa h2
  obtain⟨z,h5,h6⟩:=aa h4
  have:=(oO (P:=P) hH hF hB (aK hT h1) (aK hT h3) (aK hT h5) h6).n
  simpa only[execOp,R5] using this
 case mapEntry t m k=>
  cases hf
  obtain⟨u,h1,h2⟩:=aa h
  obtain⟨v,h3,h4⟩:=aa h2
  have:=(yp (P:=P) hH hF hB (aK hT h1) (aK hT h3) h4).n
  simpa only[execOp,R5] using this
 case entryStore t m s x=>
  cases hf
  obtain⟨u,h1,h2⟩:=aa h
  obtain⟨v,h3,h4⟩:=aa h2
  obtain⟨z,h5,h6⟩:=aa h4
  have:=(CP (P:=P) (t:=t) hH hF hB (aK hT h1) (aK hT h3) (aK hT h5) h6).n
  simpa only[execOp,R5] using this
 case range t x=>
  cases hf
  obtain⟨u,h1,h2⟩:=aa h
  have:=(yo (P:=P) hH hF hB (aK hT h1) h2).n
  simpa only[execOp,R5] using this
 case next x s=>
  cases hf
  obtain⟨u,h1,h2⟩:=aa h
  have:=(AU (P:=P) (ty:=o.type) hH hF hB (aK hT h1) h2).n
  simpa only[execOp,R5] using this
 case typeAssert x xt t ok=>
  cases hf
  obtain⟨u,h1,h2⟩:=aa h
  have:=val h2 (fun z hz=>wG (P:=P) (w:=w) (xt:=xt) (aK hT h1) hz)
  simpa only[execOp,R5] using this
 case extract x i=>
  cases hf
  obtain⟨u,h1,h2⟩:=aa h
  have:=val h2 (fun z hz=>uG (P:=P) (w:=w) (aK hT h1) hz)
  simpa only[execOp,R5] using this
 all_goals(cases hf;cases h)
end
end Go.Cm
namespace Go.Cm
section
variable{P:Program} {E:Env} {w:World} {L:Nat} {hp:T aj} {nx:Id}
theorem ji{α:Type}{l:V}{f:V→V→Option α}{y:α}(h:AP l f=some y):∃a r,l= .cons a r∧f a r=some y:=bq h
theorem M9{α:Type}{l:List α}{a b:α}(h0:eK l 0=some a)(h1:eK l 1=some b):l[0]? =some a∧l[1]? =some b:=by
 rw[dD] at h0 h1;exact⟨h0,h1⟩
theorem mK{hb:Id→Option aj}(hH:RH E hp w)(hF:bI L nx E)(hB:∀b k,hb b=some k→get b hp=some k){b:Builtin}{ts:Array TypeId}{ty:TypeId}{cs:Array Bool}{x:V}{vs:Array Value}(hx:aH E x vs.toList){e:bw}(h:fP P hb nx b ts.toList x=some e):
 rV P L hp nx E w e (builtin b ts ty cs vs):=by
 have val:∀{r:Option V}{s:Sem Value},vE r=some e→(∀x,r=some x→∃v,s.run P w= .ok v w∧RV E x v)→rV P L hp nx E w e (do pure (.value (←s))):=by
  intro r s h1 h2
  obtain⟨x,h3,rfl⟩:=iF h1
  obtain⟨v,h4,h5⟩:=h2 x h3
  exact(pD.same hH hF h4 h5).n
 obtain⟨vs⟩:=vs
 obtain⟨ts⟩:=ts
 simp only at hx h
 cases b<;>simp only[fP] at h<;>first|(cases h;done)|skip
 ·
  obtain⟨s,r,rfl,h1⟩:=ji h
  obtain⟨y,r',rfl,h2⟩:=ji h1
  obtain⟨t,ht,h3⟩:=aa h2
  obtain⟨t2,ht2,h4⟩:=aa h3
  obtain⟨q1,q2⟩:=M9 ht ht2
  obtain⟨v,vr,rfl,v1,v2⟩:=aH.aw.1 hx
  obtain⟨u,ur,rfl,u1,u2⟩:=aH.aw.1 v2
  have:=(kn (P:=P) (ty:=ty) hH hF hB v1 u1 h4).n
  have he:Builtin.append_ ⟨ts⟩ ty ⟨v::u::ur⟩=Builtin.append_ #[t,t2] ty #[v,u]:=by
   unfold Builtin.append_
   simp[q1,q2]
  show rV P L hp nx E w e (do pure (.value (←Builtin.append_ ⟨ts⟩ ty ⟨v::u::ur⟩)))
  rw[he];exact this
 ·
  obtain⟨s,r,rfl,h1⟩:=ji h
  obtain⟨y,r',rfl,h2⟩:=ji h1
  obtain⟨t,ht,h3⟩:=aa h2
  rw[dD] at ht
  obtain⟨v,vr,rfl,v1,v2⟩:=aH.aw.1 hx
  obtain⟨u,ur,rfl,u1,u2⟩:=aH.aw.1 v2
  have:=(nM (P:=P) (ty:=ty) (t2:=t) hH hF hB v1 u1 h3).n
  have he:Builtin.copy_ ⟨ts⟩ ty ⟨v::u::ur⟩=Builtin.copy_ #[t,t] ty #[v,u]:=by
   unfold Builtin.copy_
   simp[ht]
  show rV P L hp nx E w e (do pure (.value (←Builtin.copy_ ⟨ts⟩ ty ⟨v::u::ur⟩)))
  rw[he];exact this
 ·
  obtain⟨s,r,rfl,h1⟩:=ji h
  obtain⟨t,ht,h2⟩:=aa h1
  rw[dD] at ht
  obtain⟨v,vr,rfl,v1,v2⟩:=aH.aw.1 hx
  have:=val h2 (fun z hz=>ru (P:=P) (w:=w) (ty:=ty) hH hB v1 hz)
  have he:Builtin.len_ ⟨ts⟩ ty ⟨v::vr⟩=Builtin.len_ #[t] ty #[v]:=by
   unfold Builtin.len_
   simp[ht]
  show rV P L hp nx E w e (do pure (.value (←Builtin.len_ ⟨ts⟩ ty ⟨v::vr⟩)))
  rw[he];exact this
 ·
  exact val h (fun z hz=>qy (P:=P) (w:=w) hx hz)
 ·
  exact val h (fun z hz=>qx (P:=P) (w:=w) hx hz)
theorem CQ{tm:T V}{a:Array Value}(h:RT E tm a){t:Nat}{x:V}{v:Value}(hx:RV E x v)(ht:t<a.size):RT E (put (some x) (aB t) tm) (a.setIfInBounds t v):=by
 intro p y hp
 rw[bJ] at hp
 split at hp
 ·rename_i e;subst e;cases hp
  exact⟨v,by rw[cB];simp[ht],hx⟩
 ·rename_i R7
  obtain⟨u,h1,h2⟩:=h p y hp
  refine⟨u,?_,h2⟩
  rw[Array.getElem?_setIfInBounds,if_neg (fun e=>R7 (mQ (by rw[cB];exact e.symm)))]
  exact h1
theorem EO{tm:T V}{a:Array Value}(h:RT E tm a){t:Nat}{v:Value}:RT E (put none (aB t) tm) (a.setIfInBounds t v):=by
 intro p y hp
 rw[bJ] at hp
 split at hp
 ·cases hp
 ·rename_i R7
  obtain⟨u,h1,h2⟩:=h p y hp
  refine⟨u,?_,h2⟩
  rw[Array.getElem?_setIfInBounds,if_neg (fun e=>R7 (mQ (by rw[cB];exact e.symm)))]
  exact h1
noncomputable def Bh(d:Option Tmp)(v:Option V)(tm:T V):T V:=@Option.rec Tmp (fun _=>T V) tm (fun t=>put v (aB t) tm) d
theorem eE{β:Type}(d:Option Tmp)(v:Option V)(tm:T V)(k:T V→β):gO d v tm k=k (Bh d v tm):=by
 cases d with
 |none=>rfl
 |some t=>exact bV v (aB t) tm k
def Ql(d:Option Tmp)(n:Nat):Prop:=∀t,d=some t→t<n
theorem pE{tm:T V}{a:Act}(h:RT E tm a.tmps){d:Option Tmp}{x:V}{v:Value}(hx:RV E x v)(hd:Ql d a.tmps.size):RT E (Bh d (some x) tm) (a.put d v).tmps:=by
 cases d with
 |none=>exact h
 |some t=>exact CQ h hx (hd t rfl)
theorem CS{tm:T V}{a:Act}(h:RT E tm a.tmps){d:Option Tmp}{v:Value}:RT E (Bh d none tm) (a.put d v).tmps:=by
 cases d with
 |none=>exact h
 |some t=>exact EO h
theorem kR{e:bw}{d:Option Tmp}{tm:T V}{df:V}{k:iL}{R:Rs}(h:nX e d tm hp nx df k=some R):k (Bh d (some e.val) tm) (e.hp nx hp) (e.nx nx) df=some R:=by
 cases e with
 |v x=>rw[show nX (.v x) d tm hp nx df k=gO d (some x) tm fun tm=>k tm hp nx df from rfl,eE] at h;exact h
 |
  nw x b=>
  rw[show nX (.nw x b) d tm hp nx df k=gO d (some x) tm fun tm=>dx (some b) nx hp fun hp=>Ct (jR nx) fun nx=>k tm hp nx df from rfl,eE,bV,l5] at h
  exact h
 |
  ch x b bl=>
  rw[show nX (.ch x b bl) d tm hp nx df k=gO d (some x) tm fun tm=>dx (some bl) b hp fun hp=>k tm hp nx df from rfl,eE,bV] at h
  exact h
 |
  mv x b bl=>
  rw[show nX (.mv x b bl) d tm hp nx df k=gO d (some x) tm fun tm=>dx none b hp fun hp=>dx (some bl) nx hp fun hp=>Ct (jR nx) fun nx=>k tm hp nx df from rfl,eE,bV,bV,l5] at h
  exact h
end
end Go.Cm
namespace Go.Cm
abbrev Fr(r:Option Nat):Fence:={fn:=fun _=>True,depth:=none,alive:=false,round:=r}
structure Ok(gl:List V)(L sz:Nat)(tm:T V)(hp:T aj)(nx:Id)(E:Env)(a:Act)(w:World):Prop where
 vt:RT E tm a.tmps
 vs:sz≤a.tmps.size
 vh:RH E hp w
 vf:bI L nx E
 vg:GL gl hp E w
def RF(r:Option Nat)(E:Env)(df:V)(ds:List Deferred):Prop:=
 (r=none∧RD E df ds)∨∃b l,df= .yl b∧r=some l∧E.g b=some l∧ds= []
theorem RF.mono{r:Option Nat}{E E':Env}(h:E.le E'){df:V}{ds:List Deferred}(k:RF r E df ds):RF r E' df ds:=by
 rcases k with⟨h1,h2⟩|⟨b,l,h1,h2,h3,h4⟩
 ·exact Or.inl ⟨h1,h2.mono h⟩
 ·exact Or.inr ⟨b,l,h1,h2,(h b l h3).1,h4⟩
def qR:Xt→Exit
 | .gH=>.normal
 | .ext i=>.exit i
 | .ret=>.ret
def ep(P:Program)(gl:List V)(c:Code)(sz:Nat)(tm:T V)(hp:T aj)(nx:Id)(df:V)(x:Xt)(Sf:T V)(R0:T aj)(RY:Id)(Si:V):Prop:=
 num nx≤num RY∧∀(r:Option Nat)(L:Nat)(E:Env)(a:Act)(w:World),num RY≤L→Ok gl L sz tm hp nx E a w→RF r E df a.defers→∀Q:Exit→Act→World→Prop,
  (∀E' a' w',Ok gl L sz Sf R0 RY E' a' w'→RF r E' Si a'.defers→Ex hp nx E w R0 RY E' w'→Q (qR x) a' w')→c.wpIn (Fr r) 0 P Q a w
def rW(P:Program)(gl:List V)(ex:dc):Prop:=
 ∀c SM sz tm hp nx df x Sf R0 RY Si,ex c SM sz tm hp nx df=some (.mk x Sf R0 RY Si)→ep P gl c sz tm hp nx df x Sf R0 RY Si
def jL(P:Program)(gl:List V)(o:Oper)(sz:Nat)(tm:T V)(hp:T aj)(nx:Id)(df:V)(Sf:T V)(R0:T aj)(RY:Id)(Si:V):Prop:=
 num nx≤num RY∧∀(r:Option Nat)(L:Nat)(E:Env)(a:Act)(w:World),num RY≤L→Ok gl L sz tm hp nx E a w→RF r E df a.defers→∀(K:Act→World→Prop)(Q:Exit→Act→World→Prop),
  (∀E' a' w',Ok gl L sz Sf R0 RY E' a' w'→RF r E' Si a'.defers→Ex hp nx E w R0 RY E' w'→K a' w')→o.wpIn (Fr r) 0 P a w K Q
section
variable{P:Program} {gl:List V}
theorem uI(e:bw)(nx:Id):num nx≤num (e.nx nx):=by
 cases e<;>simp only[bw.nx]<;>first|exact Nat.le_refl _|(rw[bk];omega)
theorem gC(a:Act)(d:Option Tmp)(v:Value):(a.put d v).tmps.size=a.tmps.size:=by
 cases d<;>simp[Act.put]
theorem put_defers(a:Act)(d:Option Tmp)(v:Value):(a.put d v).defers=a.defers:=by
 cases d<;>simp[Act.put]
theorem uJ{sz:Nat}{d:Option Tmp}(h:l9 sz d=true){n:Nat}(hn:sz≤n):Ql d n:=by
 intro t ht
 subst ht
 have:Nat.succ t≤sz:=Nat.le_of_ble_eq_true h
 exact Nat.lt_of_lt_of_le this hn
theorem Ok.Qm{L sz:Nat}{tm:T V}{hp R0:T aj}{nx RY:Id}{E E':Env}{a:Act}{w w':World}(h:Ok gl L sz tm hp nx E a w)(hL:num RY≤L){d:Option Tmp}(hd:l9 sz d=true){x:V}{v:Value}(hx:RV E' x v)(hH:RH E' R0 w')(hF:bI L RY E')(hX:Ex hp nx E w R0 RY E' w'):
 Ok gl L sz (Bh d (some x) tm) R0 RY E' (a.put d v) w':=
 ⟨pE (h.vt.mono (hX.le h.vf hL)) hx (uJ hd h.vs),by rw[gC];exact h.vs,hH,hF,h.vg.step hX⟩
theorem qS{op:Op}{f:EH}(h:c6 P gl op= .op f):l8 P gl op= .mk f∧(∀c,op≠.defer c)∧∀c,op≠.call c:=by
 cases op<;>simp only[c6] at h
 case call c=>split at h<;>cases h
 case defer c=>split at h<;>cases h
 all_goals
  refine⟨?_,(by intro c hc;cases hc),(by intro c hc;cases hc)⟩
  cases hs:l8 P gl _ with
  |mk g=>rw[hs] at h;cases h;rfl
theorem It{o:Oper}{sz:Nat}{tm:T V}{hp:T aj}{nx:Id}{df:V}{e:bw}(hnd:∀c,o.op≠.defer c)(hd:l9 sz o.dst=true)
 (h:∀L E a w,num (e.nx nx)≤L→Ok gl L sz tm hp nx E a w→rV P L hp nx E w e (execOp a.eval o)):jL P gl o sz tm hp nx df (Bh o.dst (some e.val) tm) (e.hp nx hp) (e.nx nx) df:=by
 refine⟨uI e nx,?_⟩
 intro r L E a w hL R9 SF K Q hK
 obtain⟨n,v,w',E',h1,h2,h3,h4,h5,h6⟩:=h L E a w hL R9 hL
 unfold Oper.wpIn
 refine⟨fun _ _=>trivial,?_⟩
 rw[Oper.semAt_eq _ _ _ hnd,h1]
 have hle:=h6.le R9.vf hL
 have fin:=hK E' (a.put o.dst v) w' (R9.Qm hL hd h3 h4 h5 h6) (by rw[put_defers];exact SF.mono hle) h6
 rcases h2 with h2|⟨h2,h2'⟩
 ·subst h2;exact fin
 ·subst h2;subst h2';exact fin
theorem JD{o:Oper}{sz:Nat}{tm:T V}{hp:T aj}{nx:Id}{df:V}{k:iL}{f:EH}{R:Rs}(hc:c6 P gl o.op= .op f)(hd:l9 sz o.dst=true)(h:Qj o.dst tm hp nx df k f=some R):
 ∃Sf R0 RY Si,k Sf R0 RY Si=some R∧jL P gl o sz tm hp nx df Sf R0 RY Si:=by
 obtain⟨e,h1,h2⟩:=aa h
 obtain⟨c1,c2,c3⟩:=qS hc
 refine⟨_,_,_,_,kR h2,It c2 hd ?_⟩
 intro L E a w hL R9
 exact zK R9.vt R9.vh R9.vf (fun _ _ hb=>hb) R9.vg c1 h1
theorem tc{op:Op}{b:Builtin}{args:List Operand}{ts:List TypeId}(h:c6 P gl op= .blt b args ts):∃c,op= .call c∧c.callee= .builtin b∧c.args.toList=args∧c.argTypes.toList=ts:=by
 cases op<;>simp only[c6] at h
 case call c=>
  split at h
  ·rename_i b' Sb;cases h;exact⟨c,rfl,Sb,rfl,rfl⟩
  ·cases h
  ·cases h
 case defer c=>split at h<;>cases h
 all_goals(cases hs:l8 P gl _ with|mk g=>rw[hs] at h;cases h)
theorem EP{o:Oper}{sz:Nat}{tm:T V}{hp:T aj}{nx:Id}{df:V}{k:iL}{b:Builtin}{args:List Operand}{ts:List TypeId}{R:Rs}(hc:c6 P gl o.op= .blt b args ts)(hd:l9 sz o.dst=true)(h:MR P o.dst tm hp nx df k b args ts=some R):
 ∃Sf R0 RY Si,k Sf R0 RY Si=some R∧jL P gl o sz tm hp nx df Sf R0 RY Si:=by
 obtain⟨x,h1,h2⟩:=aa h
 obtain⟨e,h3,h4⟩:=aa h2
 obtain⟨c,c1,c2,c3,c4⟩:=tc hc
 subst c3;subst c4
 refine⟨_,_,_,_,kR h4,It (by rw[c1];intro c hc;cases hc) hd ?_⟩
 intro L E a w hL R9
 have hx:=eD R9.vt h1
 have:=mK (P:=P) (ty:=o.type) (cs:=c.args.map fun| .const _=>true|_=>false) (vs:=c.args.map a.eval) R9.vh R9.vf (fun _ _ hb=>hb) (by simpa using hx) h3
 intro hL'
 obtain⟨n,v,w',E',g1,g2⟩:=this hL'
 refine⟨n,v,w',E',?_,g2⟩
 simp only[execOp,c1,resolve,c2,Sem.run_bind,Sem.run_pure,Result.andThen_ok,invoke]
 exact g1
theorem CU{E:Env}:RV E (.bU .nil) undef:=by
 exact⟨#[],rfl,(aH.bL).2 rfl⟩
theorem yq{v:V}{f:Bool→Option Bool}{b:Bool}(h:qO v f=some b):(v= .bU .nil∧b=false)∨∃c,v= .b c∧f c=some b:=by
 cases v with
 |b c=>exact Or.inr ⟨c,rfl,h⟩
 |
  bU l=>
  rcases bF (show l.split (some false) (fun _ _=>none) none=some b from h) with⟨rfl,h⟩|⟨_,_,_,h⟩
  ·cases h;exact Or.inl ⟨rfl,rfl⟩
  ·cases h
 |_=>cases h
theorem uK{ops:Array Oper}{tm:T V}{E:Env}{a:Act}(hT:RT E tm a.tmps){o:Oper}{b:Bool}(h:want ops.toList tm o.guard=some b):Region.wanted o (yielded ops a.tmps)=b:=by
 unfold Region.wanted
 cases hg:o.guard with
 |none=>rw[hg] at h;cases(show some true=some b from h);rfl
 |
  some p=>
  rw[hg] at h
  obtain⟨o',h1,h2⟩:=aa (show(bO (eK ops.toList p.1) fun o=>bO o.dst fun d=>bO (get (aB d) tm) fun v=>qO v fun b=>some (@Bool.rec (fun _=>Bool) (cJ p.2) p.2 b))=some b from h)
  obtain⟨d,h3,h4⟩:=aa h2
  obtain⟨v,h5,h6⟩:=aa h4
  obtain⟨u,u1,u2⟩:=hT _ _ h5
  rw[cB] at u1
  rcases yq h6 with⟨rfl,rfl⟩|⟨c,rfl,h7⟩
  ·simp only[RV,aH.bL] at u2
   obtain⟨a0,rfl,_⟩:=u2
   rw[dD] at h1
   have:ops[p.1]? =some o':=by simpa using h1
   simp[yielded,this,h3,u1]
  simp only[RV] at u2
  subst u2
  rw[dD] at h1
  have hy:yielded ops a.tmps p.1=some c:=by
   have:ops[p.1]? =some o':=by simpa using h1
   simp[yielded,this,h3,u1]
  obtain⟨j,want⟩:=p
  simp only at hy h7 ⊢
  rw[hy]
  cases h7
  cases c<;>cases want<;>rfl
theorem uL{hf:Hk}{ih:dc}{sz:Nat}{ops:Array Oper}(R5:∀o tm hp nx df k R,l9 sz o.dst=true→MV P gl hf ih o tm hp nx df k=some R→∃Sf R0 RY Si,k Sf R0 RY Si=some R∧jL P gl o sz tm hp nx df Sf R0 RY Si):
 ∀(l:List Oper)(i:Nat),ops.toList.drop i=l→∀tm hp nx df x Sf R0 RY Si,AQ P gl hf ih sz ops.toList l tm hp nx df=some (.mk x Sf R0 RY Si)→x= .gH∧num nx≤num RY∧
  ∀(r:Option Nat)(L:Nat)(E:Env)(a:Act)(w:World),num RY≤L→Ok gl L sz tm hp nx E a w→RF r E df a.defers→∀Q:Exit→Act→World→Prop,
   (∀E' a' w',Ok gl L sz Sf R0 RY E' a' w'→RF r E' Si a'.defers→Ex hp nx E w R0 RY E' w'→Q .normal a' w')→wpOpsIn (Fr r) 0 P ops Q ((List.range l.length).map (·+i)) a w
 |
  [],i,hl,tm,hp,nx,df,x,Sf,R0,RY,Si,h=>by
  cases(show some (Rs.mk .gH tm hp nx df)=some (.mk x Sf R0 RY Si) from h)
  refine⟨rfl,Nat.le_refl _,?_⟩
  intro r L E a w hL R9 SF Q hQ
  exact hQ E a w R9 SF (Ex.refl _ _ _ _)
 |
  o::l,i,hl,tm,hp,nx,df,x,Sf,R0,RY,Si,h=>by
  obtain⟨hd,h1⟩:=ah (show bf (l9 sz o.dst) (bO (want ops.toList tm o.guard) fun w=>@Bool.rec (fun _=>Option Rs) (gO o.dst (some (.bU .nil)) tm fun tm=>AQ P gl hf ih sz ops.toList l tm hp nx df) (MV P gl hf ih o tm hp nx df (AQ P gl hf ih sz ops.toList l)) w)=some (.mk x Sf R0 RY Si) from h)
  obtain⟨wt,hw,h2⟩:=aa h1
  have hi:ops[i]? =some o:=by
   have:=congrArg (·[0]?) hl
   simpa using this
  have hl':ops.toList.drop (i+1)=l:=by
   have:=congrArg (List.drop 1) hl
   simpa using this
  have e:(List.range (o::l).length).map (·+i)=i::(List.range l.length).map (·+(i+1)):=by
   rw[List.length_cons,List.range_succ_eq_map]
   simp only[List.map_cons,Nat.zero_add,List.map_map]
   congr 1
   apply List.map_congr_left
   intro x _
   simp;omega
  cases wt with
  |
   true=>
   obtain⟨j8,cX,ei,df1,h3,h4,h5⟩:=R5 o tm hp nx df _ _ hd h2
   obtain⟨i1,i2,i3⟩:=uL R5 l (i+1) hl' j8 cX ei df1 x Sf R0 RY Si h3
   refine⟨i1,Nat.le_trans h4 i2,?_⟩
   intro r L E a w hL R9 SF Q hQ
   rw[e,wpOpsIn_cons]
   unfold wpOpIn
   simp only[hi,uK R9.vt hw,if_true]
   refine h5 r L E a w (Nat.le_trans i2 hL) R9 SF _ Q ?_
   intro E' a' w' k1 k2 k3
   exact i3 r L E' a' w' hL k1 k2 Q (fun E2 a2 w2 q1 q2 q3=>hQ E2 a2 w2 q1 q2 (k3.trans q3))
  |
   false=>
   have h3:gO o.dst (some (.bU .nil)) tm (fun tm=>AQ P gl hf ih sz ops.toList l tm hp nx df)=some (.mk x Sf R0 RY Si):=h2
   rw[eE] at h3
   obtain⟨i1,i2,i3⟩:=uL R5 l (i+1) hl' _ hp nx df x Sf R0 RY Si h3
   refine⟨i1,i2,?_⟩
   intro r L E a w hL R9 SF Q hQ
   rw[e,wpOpsIn_cons]
   unfold wpOpIn
   simp only[hi,uK R9.vt hw,Bool.false_eq_true,if_false]
   refine⟨fun _ _=>trivial,?_⟩
   exact i3 r L E (a.put o.dst undef) w hL ⟨pE R9.vt (CU) (uJ hd R9.vs),by rw[gC];exact R9.vs,R9.vh,R9.vf,R9.vg⟩ (by rw[put_defers];exact SF) Q hQ
end
end Go.Cm
namespace Go.Cm
section
variable{P:Program} {gl:List V} {E:Env} {w:World}
theorem ER{k:aj}(h:k.EI=true):k= .df:=by cases k<;>first|rfl|cases h
theorem kA{α:Type}{k:aj}{f:LoopState→Option Code→FuncId→T V→Nat→Array Tmp→Code→Code→Id→Option α}{y:α}(h:k.Jw f=some y):∃st pe fn tm sz ps Sz body d,k= .lp st pe fn tm sz ps Sz body d∧f st pe fn tm sz ps Sz body d=some y:=by
 cases k<;>first|exact⟨_,_,_,_,_,_,_,_,_,rfl,h⟩|cases h
theorem fw{α:Type}{r:Option Rs}{k:Xt→T V→T aj→Id→V→Option α}{y:α}(h:Bf r k=some y):∃x tm hp nx df,r=some (.mk x tm hp nx df)∧k x tm hp nx df=some y:=by
 cases r with
 |none=>cases h
 |some r=>cases r with|mk x tm hp nx df=>exact⟨x,tm,hp,nx,df,rfl,h⟩
theorem RH.shut{hp:T aj}{nx:Id}(h:RH E hp w){b:Id}{k0:aj}{g:Nat}{o:Obj}(hb:get b hp=some k0)(hg:E.g b=some g)(w':World)(hs:w'.heap=w.heap.setIfInBounds g o)(ho:w'.os=w.os)(ht:Tp w w')(hu:w'.output=w.output):
 RH E (put none b hp) w'∧Ex hp nx E w (put none b hp) nx E w':=by
 have key:∀b' k',get b' (put none b hp)=some k'→b'≠b∧get b' hp=some k':=by
  intro b' k' Sb
  rw[bJ] at Sb
  split at Sb
  ·cases Sb
  ·rename_i R7;exact⟨R7,Sb⟩
 refine⟨⟨?_,?_⟩,⟨ho,ht,hu,by rw[hs];simp,?_,?_,Nat.le_refl _,fun _ _=>⟨rfl,rfl⟩⟩⟩
 ·intro b' k' Sb
  obtain⟨R7,hb1⟩:=key b' k' Sb
  obtain⟨g',o',h1,h2,h3⟩:=h.bh b' k' hb1
  refine⟨g',o',h1,?_,h3⟩
  have:g≠g':=fun e=>R7 (by subst e;exact h.sep b' b k' k0 g hb1 hb h1 hg)
  rw[hs,Array.getElem?_setIfInBounds,if_neg this];exact h2
 ·intro b1 b2 k1 k2 g' h1 h2 g1 g2
  exact h.sep b1 b2 k1 k2 g' (key b1 k1 h1).2 (key b2 k2 h2).2 g1 g2
 ·intro g' hg' hn
  have:g≠g':=fun e=>hn (by subst e;exact⟨b,k0,hb,hg⟩)
  rw[hs,Array.getElem?_setIfInBounds,if_neg this]
 ·rintro g' ⟨b',k',Sb,hg'⟩
  exact Or.inl ⟨b',k',(key b' k' Sb).2,hg'⟩
noncomputable def bT(args:V):Id→T V→T V:=
 @V.rec (fun _=>Id→T V→T V) (fun _ _ t=>t) (fun _ _ _ t=>t) (fun _ _ t=>t) (fun _ _ _ t=>t) (fun _ t=>t) (fun _ _ _ _ _ t=>t) (fun _ _ _ _ _ t=>t) (fun _ t=>t) (fun _ t=>t) (fun _ _ t=>t) (fun _ t=>t) (fun _ _ _ _ _ _ t=>t) (fun _ _ t=>t) (fun _ t=>t) (fun _ _ _ _ t=>t) (fun _ t=>t) (fun _ _ _ t=>t) (fun _ _ _ t=>t) (fun _ t=>t) (fun _ t=>t)
  (fun a _ _ ih p t=>ih (jR p) (put (some a) p t)) args
theorem wL{β:Type}:∀(args:V)(p:Id)(t:T V)(k:T V→β),wC args p t k=k (bT args p t):=by
 intro args
 induction args with
 |
  cons a l _ ih=>
  intro p t k
  show dx (some a) p t (fun t=>Ct (jR p) fun p=>wC l p t k)=_
  rw[bV,l5,ih];rfl
 |_=>intro p t k;rfl
theorem Na{arr:Array Value}:∀{args:V}{vs:List Value}{p:Id}{t:T V},aH E args vs→RT E t arr→(∀(i:Nat)(v:Value),vs[i]? =some v→arr[num p+i]? =some v)→RT E (bT args p t) arr:=by
 intro args
 induction args with
 |nil=>intro vs p t h ht _;exact ht
 |
  cons a l _ ih=>
  intro vs p t h ht hv
  obtain⟨v,r,rfl,h1,h2⟩:=aH.aw.1 h
  show RT E (bT l (jR p) (put (some a) p t)) arr
  refine ih h2 ?_ ?_
  ·intro q y hq
   rw[bJ] at hq
   split at hq
   ·rename_i e;subst e;cases hq
    exact⟨v,by have:=hv 0 v rfl;simpa using this,h1⟩
   ·exact ht q y hq
  ·intro i u hu
   rw[bk]
   have:=hv (i+1) u (by simpa using hu)
   rw[show num p+1+i=num p+(i+1) from by omega];exact this
 |_=>intro vs p t h;simp[aH] at h
theorem qT{args:V}{vs:List Value}{n:Nat}(h:aH E args vs):RT E (bT args [] .e) (vs.toArray++Array.replicate (n -vs.toArray.size) undef)∧n≤(vs.toArray++Array.replicate (n -vs.toArray.size) undef).size:=by
 refine⟨Na h (fun p v hp=>by rw[gM] at hp;cases hp) ?_,by simp;omega⟩
 intro i v hv
 have Sg:i<vs.length:=(List.getElem?_eq_some_iff.1 hv).1
 show(vs.toArray++_)[0+i]? =some v
 rw[Nat.zero_add,Array.getElem?_append,if_pos (by simpa using Sg)]
 simpa using hv
theorem zL{hp:T aj}{tm:T V}{a:Array Value}(hT:RT E tm a)(hH:RH E hp w):∀{l:List ResultVar}{x:V},mG P hp tm l=some x→∃vs:List Value,(l.mapM (Abs.lr a)).run P w= .ok vs w∧aH E x vs
 |[],x,h=>by cases h;exact⟨[],by simp,by simp[aH]⟩
 |
  r::l,x,h=>by
  obtain⟨v,h1,h2⟩:=aa (show(bO (@ResultVar.casesOn (fun _=>Option V) r (fun t=>get (aB t) tm) (fun a t=>bO (get (aB a) tm) fun p=>dJ P (fun b=>get b hp) t p)) fun v=>bO (mG P hp tm l) fun l=>some (.cons v l))=some x from h)
  obtain⟨m,h3,h4⟩:=aa h2
  cases h4
  obtain⟨vs,i1,i2⟩:=zL hT hH h3
  have hone:∃u,(Abs.lr a r).run P w= .ok u w∧RV E v u:=by
   cases r with
   |
    tmp t=>
    obtain⟨u,u1,u2⟩:=hT _ _ (show get (aB t) tm=some v from h1)
    rw[cB] at u1
    exact⟨u,by simp[Abs.lr,u1],u2⟩
   |
    cell c t=>
    obtain⟨p,p1,p2⟩:=aa (show(bO (get (aB c) tm) fun p=>dJ P (fun b=>get b hp) t p)=some v from h1)
    obtain⟨u,u1,u2⟩:=hT _ _ p1
    rw[cB] at u1
    obtain⟨z,z1,z2⟩:=gS (P:=P) (w:=w) hH (fun _ _ hb=>hb) u2 p2
    obtain⟨b,o,rfl,_⟩:=eA p2
    simp only[RV] at u2
    obtain⟨g,hg,rfl⟩:=u2
    refine⟨z,?_,z2⟩
    simp only[Abs.lr,Sem.run_bind]
    have:a.getD c undef= .pointer (some ⟨g,o,none⟩):=by simp[u1]
    rw[this]
    simpa[asAddr,Instr.loadAt,Instr.sureAddr] using z1
  obtain⟨u,u1,u2⟩:=hone
  exact⟨u::vs,by simp[List.mapM_cons,u1,i1],aH.aw.2 ⟨_,_,rfl,u2,i2⟩⟩
theorem ma{hp:T aj}{tm:T V}{a:Array Value}(hT:RT E tm a)(hH:RH E hp w){fn:Func}{x:V}(h:mG P hp tm fn.results.toList=some x):∃u,(results fn a).run P w= .ok u w∧RV E (one x) u:=by
 obtain⟨vs,h1,h2⟩:=zL (P:=P) (w:=w) hT hH h
 have hm:(fn.results.mapM (Abs.lr a)).run P w= .ok vs.toArray w:=by
  rw[Array.mapM_eq_mapM_toList]
  simp only[Sem.run_map]
  rw[h1];rfl
 rw[Abs.lY]
 simp only[Sem.run_bind,hm,Result.andThen_ok,Sem.run_pure]
 refine⟨_,rfl,?_⟩
 have bU:∀{y:V},aH E y vs→vs.length≠1→RV E (.bU y) (if h:vs.toArray.size=1 then vs.toArray[0] else .tuple vs.toArray):=by
  intro y hy R7
  rw[dif_neg (by simpa using R7)]
  simp only[RV]
  exact⟨_,rfl,hy⟩
 cases x with
 |
  nil=>
  rw[aH.bL] at h2;subst h2
  exact bU (by simp[aH]) (by simp)
 |
  cons b m=>
  obtain⟨v,r,rfl,v1,v2⟩:=aH.aw.1 h2
  cases m with
  |
   nil=>
   rw[aH.bL] at v2;subst v2
   show RV E b _
   simpa using v1
  |
   cons c m'=>
   obtain⟨v',r',rfl,_,_⟩:=aH.aw.1 v2
   exact bU h2 (by simp)
  |_=>simp[aH] at v2
 |_=>simp[aH] at h2
end
end Go.Cm
namespace Go.Cm
section
variable{P:Program} {gl:List V} {ih:dc}
theorem ES{o:Op}(h:Jy o=true):∃ts,o= .call {callee:=.builtin .recover,args:= #[],argTypes:=ts}:=by
 cases o<;>simp only[Jy] at h<;>first|(cases h;done)|skip
 rename_i c
 obtain⟨ce,axs,ts⟩:=c
 cases ce<;>simp only at h<;>first|(cases h;done)|skip
 rename_i b
 cases b<;>simp only at h<;>first|(cases h;done)|skip
 refine⟨ts,?_⟩
 have:axs= #[]:=by simpa using h
 subst this;rfl
theorem ET{o:Op}{t:Tmp}(h:Jz o=some t):o= .assign (.tmp t):=by
 cases o<;>simp only[Jz] at h<;>first|(cases h;done)|skip
 rename_i x
 cases x<;>simp only at h<;>first|(cases h;done)|skip
 cases h;rfl
theorem wM{c:Code}{t5 t2:Tmp}{rest:Code}(h:qN c=some (t5,t2,rest)):∃rid o0 o1 ts,c= .seq (.region rid #[o0,o1] false) rest∧o0.op= .call {callee:=.builtin .recover,args:= #[],argTypes:=ts}∧o0.dst=some t5∧o0.guard=none∧o1.op= .assign (.tmp t5)∧o1.dst=some t2∧o1.guard=none:=by
 cases c<;>simp only[qN] at h<;>first|(cases h;done)|skip
 rename_i a rest'
 cases a<;>simp only at h<;>first|(cases h;done)|skip
 rename_i rid ops d
 obtain⟨hd,h1⟩:=ah h
 obtain⟨p,hp,h2⟩:=aa h1
 cases h2
 have hd:d=false:=by cases d;rfl;cases hd
 subst hd
 obtain⟨l⟩:=ops
 simp only at hp
 unfold CD at hp
 split at hp
 ·rename_i o0 o1
  obtain⟨g1,g2⟩:=ah hp
  obtain⟨g3,g4⟩:=ah g2
  obtain⟨g5,g6⟩:=ah g4
  obtain⟨t5',g7,g8⟩:=aa g6
  obtain⟨t2',g9,g10⟩:=aa g8
  obtain⟨t,g11,g12⟩:=aa g10
  obtain⟨g13,g14⟩:=ah g12
  cases g14
  obtain⟨ts,q⟩:=ES g1
  have:=ET g11
  have e:t=t5':=bg g13
  subst e
  exact⟨rid,o0,o1,ts,rfl,q,g7,by simpa using g3,this,g9,by simpa using g5⟩
 ·cases hp
theorem JE{E:Env}{ds:List Deferred}(h:RD E .nil ds):ds= []:=h
theorem EU(hI:rW P gl ih){f:FuncId}{args:V}{hp:T aj}{nx:Id}{k:T aj→Id→Option Rs}{R:Rs}(h:EJ P ih f args hp nx k=some R):
 ∃R0 RY,k R0 RY=some R∧(∃fn,P.funcs[f]? =some fn∧fn.body≠none)∧num nx≤num RY∧∀L E w vs,num RY≤L→aH E args vs→RH E hp w→bI L nx E→GL gl hp E w→
  CallsDIn Fence.wide 0 P f vs.toArray .returning w (fun e u w'=>u= .returning∧(∃v,e= .returned v)∧∃E',RH E' R0 w'∧bI L RY E'∧Ex hp nx E w R0 RY E' w'):=by
 obtain⟨fn,hfn,h1⟩:=aa h
 obtain⟨c,hc,h2⟩:=aa h1
 obtain⟨s,hs,h3⟩:=aa h2
 obtain⟨b5,h4⟩:=ah h3
 obtain⟨b2,h5⟩:=ah h4
 obtain⟨t5,t2,rest⟩:=s
 simp only at hs b5 b2 h5
 rw[wL,bV,bV] at h5
 obtain⟨x,Sf,R0,RY,Si,Ss,h6⟩:=fw h5
 obtain⟨s1,s2⟩:=hI _ _ _ _ _ _ _ _ _ _ _ _ Ss
 rw[dD] at hfn
 have hf':P.funcs[f]? =some fn:=by simpa using hfn
 obtain⟨rid,o0,o1,ts,e0,e1,e2,e3,e4,e5,e6⟩:=wM hs
 have fin:∃y,Si= .nil∧mG P R0 Sf fn.results.toList=some y∧k R0 RY=some R∧(qR x= .normal∨qR x= .ret):=by
  cases x with
  |
   gH=>
   rcases bF (show Si.split (bO (mG P R0 Sf fn.results.toList) fun _=>k R0 RY) (fun _ _=>none) none=some R from h6) with⟨q1,q2⟩|⟨_,_,_,q⟩
   ·obtain⟨y,y1,y2⟩:=aa q2
    exact⟨y,q1,y1,y2,Or.inl rfl⟩
   ·cases q
  |ext i=>cases h6
  |
   ret=>
   rcases bF (show Si.split (bO (mG P R0 Sf fn.results.toList) fun _=>k R0 RY) (fun _ _=>none) none=some R from h6) with⟨q1,q2⟩|⟨_,_,_,q⟩
   ·obtain⟨y,y1,y2⟩:=aa q2
    exact⟨y,q1,y1,y2,Or.inr rfl⟩
   ·cases q
 obtain⟨y,hdf,hy,hk,hx⟩:=fin
 refine⟨R0,RY,hk,⟨fn,hf',by rw[hc];simp⟩,s1,?_⟩
 intro L E w vs hL hv hH hF hG
 refine callsDIn_of_wpSIn (F:=Fence.wide) hf' (by rw[hc,e0]) trivial ?_
 intro c0 cs hm
 obtain⟨fr1,fr2⟩:=qT (n:=fn.ntmps) hv
 refine wpSIn_seq (wpSIn_region ?_)
 show wpOpsSIn _ _ _ _ _ [0,1] _ _ _
 have w0:∀y,Region.wanted o0 y=true:=by intro y;simp[Region.wanted,e3]
 have w1:∀y,Region.wanted o1 y=true:=by intro y;simp[Region.wanted,e6]
 have x0:∀ρ:Operand→Value,(execOp ρ o0).run P w= .ok .recover w:=by
  intro ρ
  simp[execOp,e1,resolve,invoke,builtin]
 have hrc:recoverD (c0::cs)=none:=by simp[recoverD,hm]
 have ei0:(#[o0,o1]:Array Oper)[0]? =some o0:=rfl
 have ei1:(#[o0,o1]:Array Oper)[1]? =some o1:=rfl
 have b5:t5<fn.ntmps:=Nat.le_of_ble_eq_true b5
 have b2:t2<fn.ntmps:=Nat.le_of_ble_eq_true b2
 simp only[wpOpsSIn,ei0,ei1,w0,w1,if_true,x0,hrc]
 refine⟨fun _ _=>trivial,fun _ _=>trivial,?_⟩
 have hnil:RV E .ni .nilIface:=by simp only[RV]
 have g1:=pE (a:={tmps:=vs.toArray++Array.replicate (fn.ntmps -vs.toArray.size) undef,defers:=[]}) fr1 (d:=some t5) hnil (fun t ht=>by cases ht;exact Nat.lt_of_lt_of_le b5 fr2)
 have Sj:((({tmps:=vs.toArray++Array.replicate (fn.ntmps -vs.toArray.size) undef,defers:=[]}:Act).put o0.dst .nilIface).eval (.tmp t5))= .nilIface:=by
  rw[e2]
  have Sd:t5<(vs.toArray++Array.replicate (fn.ntmps -vs.toArray.size) undef).size:=Nat.lt_of_lt_of_le b5 fr2
  simp only[Act.put,Act.eval]
  rw[Array.getD_eq_getD_getElem?,Array.getElem?_setIfInBounds]
  rw[if_pos rfl,if_pos Sd];rfl
 have x1:(execOp (({tmps:=vs.toArray++Array.replicate (fn.ntmps -vs.toArray.size) undef,defers:=[]}:Act).put o0.dst .nilIface).eval o1).run P w= .ok (.value .nilIface) w:=by
  simp only[execOp,e4]
  rw[Sj]
  rfl
 rw[x1]
 simp only
 have g2:=pE g1 (d:=some t2) hnil (fun t ht=>by cases ht;rw[gC];exact Nat.lt_of_lt_of_le b2 fr2)
 rw[e2,e5]
 have hc0:(c0::cs)={c0 with mode:=.returning}::cs:=by rw[←hm]
 refine wpSIn_of_wpIn (F:=Fence.wide) rfl ?_
 refine s2 none L E _ w hL ⟨g2,by rw[gC,gC];exact fr2,hH,hF,hG⟩ (Or.inl ⟨rfl,by rw[put_defers,put_defers];rfl⟩) _ ?_
 intro E' a' w' k1 k2 k3
 have hd:a'.defers= []:=by
  rcases k2 with⟨_,k2⟩|⟨_,_,_,k2,_⟩
  ·rw[hdf] at k2;exact JE k2
  ·cases k2
 obtain⟨u,u1,u2⟩:=ma (P:=P) (w:=w') k1.vt k1.vh hy
 rcases hx with hx|hx
 ·rw[hx]
  exact⟨hd,.returning,hc0,u,u1,rfl,⟨u,rfl⟩,E',k1.vh,k1.vf,k3⟩
 ·rw[hx]
  exact⟨hd,.returning,hc0,u,u1,rfl,⟨u,rfl⟩,E',k1.vh,k1.vf,k3⟩
def Enters(P:Program):Prop:=∀f fn,P.funcs[f]? =some fn→fn.body≠none→∀vs w,(callFunc f vs).run P w= .ok (.enter f vs) w
theorem EV(hI:rW P gl ih)(hE:Enters P):∀{df:V}{hp:T aj}{nx:Id}{k:T aj→Id→Option Rs}{R:Rs},jg P ih df hp nx k=some R→
 ∃R0 RY,k R0 RY=some R∧num nx≤num RY∧∀(fn:Func)(tmps:Array Value)(Rr:Ending→World→Prop) L E w ds,num RY≤L→RD E df ds→RH E hp w→bI L nx E→GL gl hp E w→
  (∀E' w',RH E' R0 w'→bI L RY E'→Ex hp nx E w R0 RY E' w'→LeavesIn (Fr none) 0 P fn tmps Rr [] .returning w')→LeavesInM (Fr none) 0 P fn tmps Rr ds .returning w:=by
 intro df
 induction df with
 |
  nil=>
  intro hp nx k R h
  refine⟨hp,nx,h,Nat.le_refl _,?_⟩
  intro fn tmps Rr L E w ds hL hd hH hF hG hK
  have hd:ds= []:=hd
  subst hd
  exact hK E w hH hF (Ex.refl _ _ _ _)
 |
  cons a l _ ihl=>
  intro hp nx k R h
  have h:(@Bool.rec (fun _=>Option Rs)
   (a.EB (fun f fs cs=>fC (iv fs cs) fun args=>EJ P ih f args hp nx fun hp nx=>jg P ih l hp nx k) fun _=>none)
   (a.mp (fun b=>bO (get b hp) fun bl=>bf bl.EI (dx none b hp fun hp=>jg P ih l hp nx k)) none) (@Option.rec Bool (fun _=>Bool) false (fun b=>b) (a.mp (fun _=>some true) none)))=some R:=h
  cases a with
  |
   m b=>
   obtain⟨bl,hbl,h1⟩:=aa (show(bO (get b hp) fun bl=>bf bl.EI (dx none b hp fun hp=>jg P ih l hp nx k))=some R from h)
   obtain⟨hdf,h2⟩:=ah h1
   have:=ER hdf;subst this
   rw[bV] at h2
   obtain⟨R0,RY,i1,i2,i3⟩:=ihl h2
   refine⟨R0,RY,i1,i2,?_⟩
   intro fn tmps Rr L E w ds hL hd hH hF hG hK
   obtain⟨d,r,g,rfl,hg,rfl,hr⟩:=hd
   obtain⟨g',o,q1,q2,q3⟩:=hH.bh b _ hbl
   rw[hg] at q1;cases q1
   have q3:o= .deferred (some []):=q3
   subst q3
   obtain⟨s1,s2⟩:=hH.shut (nx:=nx) (o:=.deferred none) hbl hg (w.putObj g (.deferred none)) rfl rfl (Tp.r rfl rfl) rfl
   refine⟨by simp,Or.inl ⟨g,_,rfl,run_takeDeferred q2,?_⟩⟩
   exact i3 fn tmps Rr L E _ r hL hr s1 hF (hG.step s2) (fun E' w' k1 k2 k3=>hK E' w' k1 k2 (s2.trans k3))
  |
   fn f fs cs=>
   have h1:(fC (iv fs cs) fun args=>EJ P ih f args hp nx fun hp nx=>jg P ih l hp nx k)=some R:=h
   rw[kF] at h1
   obtain⟨cX,ei,j1,⟨fd,j2,j3⟩,j4,j5⟩:=EU hI h1
   obtain⟨R0,RY,i1,i2,i3⟩:=ihl j1
   refine⟨R0,RY,i1,Nat.le_trans j4 i2,?_⟩
   intro fn tmps Rr L E w ds hL hd hH hF hG hK
   obtain⟨d,r,a,c,rfl,rfl,hfs,hcs,hr⟩:=hd
   have hv:aH E (iv fs cs) (a.toList++c.toList):=hfs.app hcs
   have hcall:=j5 L E w (a.toList++c.toList) (Nat.le_trans i2 hL) hv hH hF hG
   have SA:(a.toList++c.toList).toArray=a++c:=by apply Array.ext';simp
   rw[SA] at hcall
   refine⟨by simp,Or.inr ⟨fun h=>(by cases h),.func f,c,f,a++c,rfl,?_,fun _ _=>trivial,CallsDIn.mono (F:=Fence.wide) hcall ?_⟩⟩
   ·simp only[invoke];exact hE f fd j2 j3 _ _
   ·rintro e u w' ⟨rfl,⟨v,rfl⟩,E',k1,k2,k3⟩
    have hle:=k3.le hF (Nat.le_trans i2 hL)
    exact i3 fn tmps Rr L E' w' r hL (hr.mono hle) k1 k2 (hG.step k3) (fun E2 w2 q1 q2 q3=>hK E2 w2 q1 q2 (k3.trans q3))
  |_=>cases h
 |_=>intro hp nx k R h;cases h
def dz(P:Program)(gl:List V)(f:FuncId)(args:V)(hp:T aj)(nx:Id)(v:V)(R0:T aj)(RY:Id):Prop:=
 (∀vs w,(callFunc f vs).run P w= .ok (.enter f vs) w)∧num nx≤num RY∧∀L E w vs,num RY≤L→aH E args vs→RH E hp w→bI L nx E→GL gl hp E w→
  CallsIn Fence.wide 0 P f vs.toArray w (fun e w'=>∃u E',e= .returned u∧RV E' v u∧RH E' R0 w'∧bI L RY E'∧Ex hp nx E w R0 RY E' w')
theorem jj(hI:rW P gl ih)(hE:Enters P){hf:Hk}(hHash:∀args hp v,sZ hp args=some v→∀nx,dz P gl hf.h args hp nx v hp nx)(hTab:∀f args v,ky hf.t f args=some v→∀hp nx,dz P gl f args hp nx v hp nx)(hExt:∀args hp nx v R0 RY,hf.xf args hp nx=some (.mk v R0 RY)→dz P gl hf.x args hp nx v R0 RY){f:FuncId}{args:V}{hp:T aj}{nx:Id}{k:V→T aj→Id→Option Rs}{R:Rs}(h:jf P hf ih (jg P ih) f args hp nx k=some R):
 ∃v R0 RY,k v R0 RY=some R∧dz P gl f args hp nx v R0 RY:=by
 unfold jf at h
 cases hb:Nat.beq f hf.h with
 |
  true=>
  rw[hb] at h
  have:=bg hb;subst this
  obtain⟨v,h1,h2⟩:=aa (show(bO (sZ hp args) fun v=>k v hp nx)=some R from h)
  exact⟨v,hp,nx,h2,hHash args hp v h1 nx⟩
 |
  false=>
  rw[hb] at h
  cases hxb:Nat.beq f hf.x with
  |
   true=>
   rw[hxb] at h
   have:=bg hxb;subst this
   obtain⟨r,h1,h2⟩:=aa (show(bO (hf.xf args hp nx) fun r=>@Xr.casesOn (fun _=>Option Rs) r k)=some R from h)
   cases r with
   |mk v R0 RY=>exact⟨v,R0,RY,h2,hExt args hp nx v R0 RY h1⟩
  |false=>
  rw[hxb] at h
  have h0:@Option.rec V (fun _=>Option Rs) (bO (eK P.funcs.toList f) fun fn=>bO fn.body fun c=>wC args [] .e fun tm=>Bf (ih c f fn.ntmps tm hp nx .nil) fun x tm hp nx df=>
   @Xt.casesOn (fun _=>Option Rs) x (jg P ih df hp nx fun hp nx=>bO (mG P hp tm fn.results.toList) fun v=>k (one v) hp nx) (fun _=>none) (jg P ih df hp nx fun hp nx=>bO (mG P hp tm fn.results.toList) fun v=>k (one v) hp nx)) (fun v=>k v hp nx) (@Bool.rec (fun _=>Option V) none (ky hf.t f args) (Nat.testBit hf.k f))=some R:=h
  cases hlk:@Bool.rec (fun _=>Option V) none (ky hf.t f args) (Nat.testBit hf.k f) with
  |
   some v=>
   rw[hlk] at h0
   have hlk2:ky hf.t f args=some v:=by
    cases hbt:Nat.testBit hf.k f with
    |true=>rw[hbt] at hlk;exact hlk
    |false=>rw[hbt] at hlk;cases hlk
   exact⟨v,hp,nx,h0,hTab f args v hlk2 hp nx⟩
  |none=>
  rw[hlk] at h0
  obtain⟨fn,hfn,h1⟩:=aa h0
  obtain⟨c,hc,h2⟩:=aa h1
  rw[wL] at h2
  obtain⟨x,j8,cX,ei,df1,Ss,h3⟩:=fw h2
  obtain⟨s1,s2⟩:=hI _ _ _ _ _ _ _ _ _ _ _ _ Ss
  rw[dD] at hfn
  have hf':P.funcs[f]? =some fn:=by simpa using hfn
  have hx:(qR x= .normal∨qR x= .ret)∧(jg P ih df1 cX ei fun hp nx=>bO (mG P hp j8 fn.results.toList) fun v=>k (one v) hp nx)=some R:=by
   cases x with
   |gH=>exact⟨Or.inl rfl,h3⟩
   |ext i=>cases h3
   |ret=>exact⟨Or.inr rfl,h3⟩
  obtain⟨hx,h4⟩:=hx
  obtain⟨nC,sB,d1,d2,d3⟩:=EV hI hE h4
  obtain⟨y,y1,y2⟩:=aa d1
  refine⟨one y,nC,sB,y2,hE f fn hf' (by rw[hc];simp),Nat.le_trans s1 d2,?_⟩
  intro L E w vs hL hv hH hF hG
  refine callsIn_of_wp_marks (F:=Fence.wide) hf' hc trivial ?_ rfl
  obtain⟨fr1,fr2⟩:=qT (n:=fn.ntmps) hv
  refine s2 none L E {tmps:=vs.toArray++Array.replicate (fn.ntmps -vs.toArray.size) undef,defers:=[]} w (Nat.le_trans d2 hL) ⟨fr1,fr2,hH,hF,hG⟩ (Or.inl ⟨rfl,show RD E .nil [] from rfl⟩) _ ?_
  intro E1 a1 w1 k1 k2 k3
  have hrd:RD E1 df1 a1.defers:=by
   rcases k2 with⟨_,k2⟩|⟨_,_,_,k2,_⟩
   ·exact k2
   ·cases k2
  have leave:LeavesInM (Fr none) 0 P fn a1.tmps (fun e w'=>∃u E',e= .returned u∧RV E' (one y) u∧RH E' nC w'∧bI L sB E'∧Ex hp nx E w nC sB E' w') a1.defers .returning w1:=by
   refine d3 fn a1.tmps _ L E1 w1 a1.defers hL hrd k1.vh k1.vf k1.vg ?_
   intro E2 w2 q1 q2 q3
   have hle:=q3.le k1.vf hL
   obtain⟨u,u1,u2⟩:=ma (P:=P) (w:=w2) (k1.vt.mono hle) q1 y1
   exact⟨u,u1,u,E2,rfl,u2,q1,q2,k3.trans q3⟩
  rcases hx with hx|hx
  ·rw[hx];exact leave
  ·rw[hx];exact leave
end
end Go.Cm
namespace Go.Cm
section
variable{P:Program} {gl:List V} {ih:dc}
theorem zM{α:Type}{sz:Nat}:∀{ps:List Tmp}{args:V}{t:T V}{k:T V→Option α}{y:α},JA sz ps args t k=some y→
 ∃t',k t'=some y∧∀(E:Env)(vs:List Value)(arr:Array Value),aH E args vs→RT E t arr→sz≤arr.size→
  vs.length=ps.length∧RT E t' ((ps.zip vs).foldl (fun t(p:Nat×Value)=>t.setIfInBounds p.1 p.2) arr)∧((ps.zip vs).foldl (fun t(p:Nat×Value)=>t.setIfInBounds p.1 p.2) arr).size=arr.size
 |
  [],args,t,k,y,h=>by
  rcases bF (show args.split (k t) (fun _ _=>none) none=some y from h) with⟨rfl,h1⟩|⟨_,_,_,h1⟩
  ·refine⟨t,h1,?_⟩
   intro E vs arr hv ht _
   rw[aH.bL] at hv;subst hv
   exact⟨rfl,ht,rfl⟩
  ·cases h1
 |
  p::ps,args,t,k,y,h=>by
  obtain⟨x,r,rfl,h1⟩:=bq (show args.split none (fun x r=>bf (Nat.ble (Nat.succ p) sz) (dx (some x) (aB p) t fun t=>JA sz ps r t k)) none=some y from h)
  obtain⟨hp,h2⟩:=ah h1
  rw[bV] at h2
  obtain⟨t',i1,i2⟩:=zM h2
  refine⟨t',i1,?_⟩
  intro E vs arr hv ht Sd
  obtain⟨v,vr,rfl,v1,v2⟩:=aH.aw.1 hv
  have Sg:p<arr.size:=Nat.lt_of_lt_of_le (Nat.le_of_ble_eq_true hp) Sd
  obtain⟨j1,j2,j3⟩:=i2 E vr (arr.setIfInBounds p v) v2 (CQ ht v1 Sg) (by simpa using Sd)
  exact⟨by simp[j1],by simpa using j2,by simpa using j3⟩
theorem wN{E:Env}{w:World}{hp:T aj}(hH:RH E hp w){b:Id}{st:LoopState}{pe:Option Code}{fn:FuncId}{tm:T V}{sz:Nat}{ps:Array Tmp}{Sz body:Code}{d:Id}(hb:get b hp=some (.lp st pe fn tm sz ps Sz body d)){l:Nat}(hg:E.g b=some l):
 ∃a g f0,w.heap[l]? =some (.loop {state:=st,pending:=pe,fn:=f0,tmps:=a,params:=ps,assign:=Sz,body:=body,defers:=g})∧RT E tm a∧sz≤a.size∧E.g d=some g:=by
 obtain⟨g',o,h1,h2,a,g,f0,rfl,h3,h4,h5⟩:=hH.bh b _ hb
 rw[hg] at h1;cases h1
 exact⟨a,g,f0,h2,h3,h4,h5⟩
def EW(P:Program)(gl:List V)(b:Id)(args:V)(hp:T aj)(nx:Id)(v:V)(R0:T aj)(RY:Id):Prop:=
 num nx≤num RY∧∀L E w vs l,num RY≤L→aH E args vs→RH E hp w→bI L nx E→GL gl hp E w→E.g b=some l→
  ∃fn tmps Sz body,(Instr.yield l vs.toArray).run P w= .ok (.round l fn tmps Sz body) w∧RoundIn Fence.wide 0 P l fn tmps Sz body w (fun e w'=>∃u E',e= .returned u∧RV E' v u∧RH E' R0 w'∧bI L RY E'∧Ex hp nx E w R0 RY E' w')
theorem EX{b:Id}{k:V→T aj→Id→Option Rs}{x:Xt}{hp:T aj}{nx:Id}{R:Rs}(h:JB b k x hp nx=some R):
 ∃v R0,k v R0 nx=some R∧∀E w l,RH E hp w→E.g b=some l→∃jump u w',(qR x= .normal∧jump=none∨(∃i,qR x= .exit i∧jump=some (.exit i))∨qR x= .ret∧jump=some .ret)∧(Instr.endRound l jump).run P w= .ok u w'∧RV E v u∧RH E R0 w'∧Ex hp nx E w R0 nx E w':=by
 obtain⟨bl,hbl,h1⟩:=aa h
 obtain⟨st,pe,fn,tm,sz,ps,Sz,body,d,rfl,h2⟩:=kA h1
 have fin:∀(jump:Option Code)(E:Env)(w:World)(l:Nat),RH E hp w→E.g b=some l→∃u w',(Instr.endRound l jump).run P w= .ok u w'∧u= .bool jump.isNone∧
  RH E (put (some (.lp (if jump.isNone then .ready else .done) jump fn tm sz ps Sz body d)) b hp) w'∧Ex hp nx E w (put (some (.lp (if jump.isNone then .ready else .done) jump fn tm sz ps Sz body d)) b hp) nx E w':=by
  intro jump E w l hH hg
  obtain⟨a,g,f0,q1,q2,q3,q4⟩:=wN hH hbl hg
  obtain⟨s1,s2⟩:=hH.change (nx:=nx) (k:=.lp (if jump.isNone then .ready else .done) jump fn tm sz ps Sz body d) hbl hg (w.putObj l (.loop {state:=if jump.isNone then .ready else .done,pending:=jump,fn:=f0,tmps:=a,params:=ps,assign:=Sz,body:=body,defers:=g})) rfl rfl (Tp.r rfl rfl) rfl ⟨a,g,f0,rfl,q2,q3,q4⟩
  exact⟨_,_,run_endRound (P:=P) jump q1,rfl,s1,s2⟩
 cases x with
 |
  gH=>
  have h3:dx (some (.lp .ready none fn tm sz ps Sz body d)) b hp (fun hp=>k (.b true) hp nx)=some R:=h2
  rw[bV] at h3
  refine⟨.b true,_,h3,?_⟩
  intro E w l hH hg
  obtain⟨u,w',r1,r2,r3,r4⟩:=fin none E w l hH hg
  exact⟨none,u,w',Or.inl ⟨rfl,rfl⟩,r1,by rw[r2];simp only[RV];rfl,r3,r4⟩
 |
  ext i=>
  have h3:dx (some (.lp .done (some (.exit i)) fn tm sz ps Sz body d)) b hp (fun hp=>k (.b false) hp nx)=some R:=h2
  rw[bV] at h3
  refine⟨.b false,_,h3,?_⟩
  intro E w l hH hg
  obtain⟨u,w',r1,r2,r3,r4⟩:=fin (some (.exit i)) E w l hH hg
  exact⟨some (.exit i),u,w',Or.inr (Or.inl ⟨i,rfl,rfl⟩),r1,by rw[r2];simp only[RV];rfl,r3,r4⟩
 |
  ret=>
  have h3:dx (some (.lp .done (some .ret) fn tm sz ps Sz body d)) b hp (fun hp=>k (.b false) hp nx)=some R:=h2
  rw[bV] at h3
  refine⟨.b false,_,h3,?_⟩
  intro E w l hH hg
  obtain⟨u,w',r1,r2,r3,r4⟩:=fin (some .ret) E w l hH hg
  exact⟨some .ret,u,w',Or.inr (Or.inr ⟨rfl,rfl⟩),r1,by rw[r2];simp only[RV];rfl,r3,r4⟩
theorem tg(hI:rW P gl ih){b:Id}{args:V}{hp:T aj}{nx:Id}{k:V→T aj→Id→Option Rs}{R:Rs}(h:CE ih b args hp nx k=some R):
 ∃v R0 RY,k v R0 RY=some R∧EW P gl b args hp nx v R0 RY:=by
 obtain⟨bl,hbl,h1⟩:=aa h
 obtain⟨st,pe,fn,tm,sz,ps,Sz,body,d,rfl,h2⟩:=kA h1
 obtain⟨t',h3,aA⟩:=zM h2
 obtain⟨x1,j8,cX,ei,df1,run1,h4⟩:=fw h3
 have hx1:x1= .gH∧Io ih b k fn sz body j8 cX ei df1=some R:=by
  cases x1 with
  |gH=>exact⟨rfl,h4⟩
  |ext i=>cases h4
  |ret=>cases h4
 obtain⟨rfl,h5⟩:=hx1
 obtain⟨bl1,hbl1,h6⟩:=aa h5
 obtain⟨Of,pe1,fn1,tmB,sz1,ps1,asg1,body1,d1,rfl,h7⟩:=kA h6
 have hst:Of= .ready∧(dx (some (.lp .busy pe1 fn1 tmB sz1 ps1 asg1 body1 d1)) b cX fun hp=>Bf (ih body fn sz j8 hp ei df1) fun x _ hp nx _=>JB b k x hp nx)=some R:=by
  cases Of with
  |ready=>exact⟨rfl,h7⟩
  |_=>cases h7
 obtain⟨rfl,h8⟩:=hst
 rw[bV] at h8
 obtain⟨x2,Be,nC,sB,df2,run2,h9⟩:=fw h8
 obtain⟨v,R0,hk,hend⟩:=EX (P:=P) h9
 obtain⟨a1,a2⟩:=hI _ _ _ _ _ _ _ _ _ _ _ _ run1
 obtain⟨b1,b2⟩:=hI _ _ _ _ _ _ _ _ _ _ _ _ run2
 refine⟨v,R0,sB,hk,Nat.le_trans a1 b1,?_⟩
 intro L E w vs l hL hv hH hF hG hg
 obtain⟨arr,g,f0,q1,q2,q3,q4⟩:=wN hH hbl hg
 obtain⟨j1,j2,j3⟩:=aA E vs arr hv q2 q3
 have hps:vs.toArray.size=ps.size:=by simpa using j1
 refine⟨f0,_,Sz,body,run_yield q1 hps,roundIn_of_wpIn (F:=Fence.wide) trivial ?_⟩
 have hzip:(ps.zip vs.toArray).foldl (fun t (p,v)=>t.setIfInBounds p v) arr=(ps.toList.zip vs).foldl (fun t(p:Nat×Value)=>t.setIfInBounds p.1 p.2) arr:=by
  rw[←Array.foldl_toList]
  congr 1
  simp
 have hL1:num ei≤L:=Nat.le_trans b1 hL
 show Sz.wpIn (Fr (some l)) 0 P _ {tmps:=(ps.zip vs.toArray).foldl (fun t (p,v)=>t.setIfInBounds p v) arr,defers:=[]} w
 rw[hzip]
 refine a2 (some l) L E _ w hL1 ⟨j2,by rw[j3];exact q3,hH,hF,hG⟩ (Or.inr ⟨b,l,rfl,rfl,hg,rfl⟩) _ ?_
 intro E1 c1 w1 k1 k2 k3
 have le1:=k3.le hF hL1
 have hg1:=(le1 b l hg).1
 obtain⟨arr1,gg1,f1,p1,p2,p3,p4⟩:=wN k1.vh hbl1 hg1
 obtain⟨s1,s2⟩:=k1.vh.change (nx:=ei) (k:=.lp .busy pe1 fn1 tmB sz1 ps1 asg1 body1 d1) hbl1 hg1 (w1.putObj l (.loop {state:=.busy,pending:=pe1,fn:=f1,tmps:=arr1,params:=ps1,assign:=asg1,body:=body1,defers:=gg1})) rfl rfl (Tp.r rfl rfl) rfl ⟨arr1,gg1,f1,rfl,p2,p3,p4⟩
 refine⟨_,run_beginRound p1 rfl,?_⟩
 refine b2 (some l) L E1 c1 _ hL ⟨k1.vt,k1.vs,s1,k1.vf,k1.vg.step s2⟩ k2 _ ?_
 intro E2 c2 w2 m1 m2 m3
 have le2:=m3.le k1.vf hL
 have hg2:=(le2 b l hg1).1
 obtain⟨jump,u,w',e1,e2,e3,e4,e5⟩:=hend E2 w2 l m1.vh hg2
 have fin:∃u' E',Ending.returned u= .returned u'∧RV E' v u'∧RH E' R0 w'∧bI L sB E'∧Ex hp nx E w R0 sB E' w':=
  ⟨u,E2,rfl,e3,e4,m1.vf,((k3.trans s2).trans m3).trans e5⟩
 rcases e1 with⟨e1,rfl⟩|⟨i,e1,rfl⟩|⟨e1,rfl⟩
 ·rw[e1];exact⟨u,w',e2,fin⟩
 ·rw[e1];exact⟨u,w',e2,fin⟩
 ·rw[e1];exact⟨u,w',e2,fin⟩
theorem EY{lI:Id}{tm:T V}{df:V}{hp:T aj}{nx:Id}{x:Xt}{Sf:T V}{R0:T aj}{RY:Id}{Si:V}(h:EK lI tm df hp nx=some (.mk x Sf R0 RY Si)):
 Sf=tm∧RY=nx∧Si=df∧∀E w l,RH E hp w→E.g lI=some l→∃jump w4,(Instr.endLoop l).run P w= .ok jump w4∧RH E R0 w4∧Ex hp nx E w R0 nx E w4∧
  ∀(r:Option Nat)(Q:Exit→Act→World→Prop)(a:Act),Q (qR x) a w4→(match jump with|none=>Q .normal a w4|some c=>c.wpIn (Fr r) 0 P Q a w4):=by
 obtain⟨bl,hbl,h1⟩:=aa h
 obtain⟨st,pe,fn,tmL,sz,ps,Sz,body,d,rfl,h2⟩:=kA h1
 have fin:st≠.busy→∀E w l,RH E hp w→E.g lI=some l→∃w4,(Instr.endLoop l).run P w= .ok pe w4∧RH E (put none lI hp) w4∧Ex hp nx E w (put none lI hp) nx E w4:=by
  intro hst E w l hH hg
  obtain⟨a,g,f0,q1,q2,q3,q4⟩:=wN hH hbl hg
  obtain⟨s1,s2⟩:=hH.shut (nx:=nx) (o:=.loop {state:=.exhausted,pending:=pe,fn:=f0,tmps:=a,params:=ps,assign:=Sz,body:=body,defers:=g}) hbl hg (w.putObj l (.loop {state:=.exhausted,pending:=pe,fn:=f0,tmps:=a,params:=ps,assign:=Sz,body:=body,defers:=g})) rfl rfl (Tp.r rfl rfl) rfl
  exact⟨_,run_endLoop q1 hst,s1,s2⟩
 cases st with
 |
  ready=>
  have h3:(dx none lI hp fun hp=>@Option.rec Code (fun _=>Option Rs) (some (.mk .gH tm hp nx df)) (fun _=>none) pe)=some (.mk x Sf R0 RY Si):=h2
  rw[bV] at h3
  cases pe with
  |some c=>cases h3
  |
   none=>
   cases h3
   refine⟨rfl,rfl,rfl,?_⟩
   intro E w l hH hg
   obtain⟨w4,r1,r2,r3⟩:=fin (by simp) E w l hH hg
   exact⟨none,w4,r1,r2,r3,fun r Q a hq=>hq⟩
 |
  done=>
  have h3:(dx none lI hp fun hp=>M4 pe tm hp nx df)=some (.mk x Sf R0 RY Si):=h2
  rw[bV] at h3
  obtain⟨c,hc,h4⟩:=aa h3
  subst hc
  cases c with
  |
   exit i=>
   cases(show some (Rs.mk (.ext i) tm (put none lI hp) nx df)=some (.mk x Sf R0 RY Si) from h4)
   refine⟨rfl,rfl,rfl,?_⟩
   intro E w l hH hg
   obtain⟨w4,r1,r2,r3⟩:=fin (by simp) E w l hH hg
   exact⟨_,w4,r1,r2,r3,fun r Q a hq=>wpIn_exit hq⟩
  |
   ret=>
   cases(show some (Rs.mk .ret tm (put none lI hp) nx df)=some (.mk x Sf R0 RY Si) from h4)
   refine⟨rfl,rfl,rfl,?_⟩
   intro E w l hH hg
   obtain⟨w4,r1,r2,r3⟩:=fin (by simp) E w l hH hg
   exact⟨_,w4,r1,r2,r3,fun r Q a hq=>wpIn_ret hq⟩
  |_=>cases h4
 |_=>cases h2
end
end Go.Cm
namespace Go.Cm
structure vB(P:Program)(gl:List V)(hf:Hk):Prop where
 JF:Enters P
 hash:∀args hp v,sZ hp args=some v→∀nx,dz P gl hf.h args hp nx v hp nx
 Kj:∀f args v,ky hf.t f args=some v→∀hp nx,dz P gl f args hp nx v hp nx
 ext:∀args hp nx v R0 RY,hf.xf args hp nx=some (.mk v R0 RY)→dz P gl hf.x args hp nx v R0 RY
section
variable{P:Program} {gl:List V} {ih:dc} {hf:Hk}
theorem wO{L:Nat}{nx:Id}{E:Env}(hF:bI L nx E)(hL:num nx<L){g n:Nat}{E':Env}(hE:E'=⟨fun b=>if b=nx then some g else E.g b,fun b=>if b=nx then n else E.n b⟩):E.le E':=by
 intro b g' hb
 have R7:b≠nx:=fun e'=>by subst e';rw[hF b (Nat.le_refl _) hL] at hb;cases hb
 subst hE
 exact⟨by simp only[if_neg R7];exact hb,by simp only[if_neg R7]⟩
theorem wP(hI:rW P gl ih)(hG:vB P gl hf){g:FuncId}{fs cs:V}{lI:Id}{tm:T V}{dfE:V}{cX:T aj}{ei:Id}{x:Xt}{Sf:T V}{R0:T aj}{RY:Id}{Si:V}
 (h:jf P hf ih (jg P ih) g (iv fs (.cons (.yl lI) cs)) cX ei (fun _ hp nx=>EK lI tm dfE hp nx)=some (.mk x Sf R0 RY Si)):
 Sf=tm∧Si=dfE∧num ei≤num RY∧∀(r:Option Nat)(L:Nat)(E:Env)(w:World)(l:Nat)(fv:Value),num RY≤L→RH E cX w→bI L ei E→GL gl cX E w→E.g lI=some l→RV E (.fn g fs cs) fv→∀(Q:Exit→Act→World→Prop)(a':Act),
  (∀E' w',RH E' R0 w'→bI L RY E'→GL gl R0 E' w'→Ex cX ei E w R0 RY E' w'→Q (qR x) a' w')→
  ∃d args,(Deferred.ofValue fv #[.func (.yield l) #[] #[]]).run P w= .ok d w∧(invoke d.target d.args).run P w= .ok (.enter g args) w∧CallsIn (Fr r) 0 P g args w (rangePost (Fr r) 0 P l Q a'):=by
 obtain⟨v,nC,sB,h1,c1,c2,c3⟩:=jj hI hG.JF hG.hash hG.Kj hG.ext h
 obtain⟨e1,e2,e3,e4⟩:=EY (P:=P) h1
 subst e2
 refine⟨e1,e3,c2,?_⟩
 intro r L E w l fv hL hH hF hGl hg hfv Q a' hQ
 simp only[RV] at hfv
 obtain⟨f',c',rfl,r1,r2⟩:=hfv
 have hv:aH E (iv fs (.cons (.yl lI) cs)) (f'.toList++(Value.func (.yield l) #[] #[]::c'.toList)):=by
  refine r1.app (aH.aw.2 ⟨_,_,rfl,?_,r2⟩)
  simp only[RV]
  exact⟨l,hg,rfl⟩
 have hc:=c3 L E w _ hL hv hH hF hGl
 have SA:(f'.toList++(Value.func (.yield l) #[] #[]::c'.toList)).toArray=f'++ #[Value.func (.yield l) #[] #[]]++c':=by apply Array.ext';simp
 rw[SA] at hc
 refine⟨{target:=.fn (.func g) c',args:=f'++ #[.func (.yield l) #[] #[]]},_,by simp[Deferred.ofValue],by simp only[invoke];exact c1 _ _,CallsIn.mono (F:=Fr r) hc ?_⟩
 rintro e w2 ⟨u,E2,rfl,q1,q2,q3,q4⟩
 have hle:=q4.le hF hL
 obtain⟨jump,w4,j1,j2,j3,j4⟩:=e4 E2 w2 l q2 (hle lI l hg).1
 refine⟨jump,w4,j1,?_⟩
 have hX:=q4.trans j3
 exact j4 r Q a' (hQ E2 w4 j2 q3 (hGl.step hX) hX)
theorem EZ(hI:rW P gl ih)(hG:vB P gl hf){f:Operand}{ps:Array Tmp}{Sz body:Code}{SM sz:Nat}{tm:T V}{hp:T aj}{nx:Id}{df:V}{x:Xt}{Sf:T V}{R0:T aj}{RY:Id}{Si:V}
 (h:M6 P hf ih f ps Sz body SM sz tm hp nx df=some (.mk x Sf R0 RY Si)):ep P gl (.rangeFunc f ps Sz body) sz tm hp nx df x Sf R0 RY Si:=by
 obtain⟨fv,hfv,h1⟩:=aa h
 rcases kz h1 with⟨g,fs,cs,rfl,h2⟩|⟨_,_,h2⟩
 ·have hcase:((df= .nil∨∃a l,df= .cons a l)∧zF P hf ih ps Sz body SM sz tm hp nx df g fs cs=some (.mk x Sf R0 RY Si))∨
   (∃lb d,df= .yl lb∧(∃st pe fn tmL szL psL asgL bodyL,get lb hp=some (.lp st pe fn tmL szL psL asgL bodyL d))∧zG P hf ih ps Sz body SM sz tm hp nx df g fs cs d=some (.mk x Sf R0 RY Si)):=by
   cases df with
   |nil=>exact Or.inl ⟨Or.inl rfl,h2⟩
   |cons a l=>exact Or.inl ⟨Or.inr ⟨a,l,rfl⟩,h2⟩
   |
    yl lb=>
    obtain⟨bl,hbl,h3⟩:=aa (show(bO (get lb hp) fun bl=>bl.Jw fun _ _ _ _ _ _ _ _ d=>zG P hf ih ps Sz body SM sz tm hp nx (.yl lb) g fs cs d)=some (.mk x Sf R0 RY Si) from h2)
    obtain⟨st,pe,fn,tmL,szL,psL,asgL,bodyL,d,rfl,h4⟩:=kA h3
    exact Or.inr ⟨lb,d,rfl,⟨_,_,_,_,_,_,_,_,hbl⟩,h4⟩
   |_=>cases h2
  rcases hcase with⟨hch,h3⟩|⟨lb,d,rfl,⟨st,pe,fn,tmL,szL,psL,asgL,bodyL,hlb⟩,h3⟩
  ·
   unfold zF at h3
   rw[bV,l5,bV,l5,kF] at h3
   obtain⟨e1,e2,e3,e4⟩:=wP hI hG h3
   rw[bk,bk] at e3
   refine⟨by omega,?_⟩
   intro r L E a w hL R9 SF Q hQ
   have SF:r=none∧RD E df a.defers:=by
    rcases SF with SF|⟨b,l,hb,_⟩
    ·exact SF
    ·rcases hch with hc|⟨_,_,hc⟩<;>(rw[hb] at hc;cases hc)
   obtain⟨rfl,hrd⟩:=SF
   refine wpIn_rangeFunc ?_
   intro fn _
   obtain⟨E1,hE1⟩:∃E1:Env,E1=⟨fun b=>if b=nx then some w.heap.size else E.g b,fun b=>if b=nx then 0 else E.n b⟩:=⟨_,rfl⟩
   obtain⟨a1,a2,a3,a4,a5⟩:=R9.vh.fresh R9.vf (by omega) (k:=.df) (o:=.deferred (some [])) (n:=0) (w.alloc (.deferred (some []))) rfl rfl (Tp.r rfl rfl) rfl E1 hE1 rfl
   have hn1:num (jR nx)<L:=by rw[bk];omega
   obtain⟨E2,hE2⟩:∃E2:Env,E2=⟨fun b=>if b=jR nx then some (w.alloc (.deferred (some []))).heap.size else E1.g b,fun b=>if b=jR nx then 0 else E1.n b⟩:=⟨_,rfl⟩
   have hle2:=wO a2 hn1 hE2
   have hsz1:(w.alloc (.deferred (some []))).heap.size=w.heap.size+1:=by simp
   obtain⟨b1,b2,b3,b4,b5⟩:=a1.fresh a2 hn1 (k:=.lp .ready none SM tm sz ps Sz body nx) (o:=.loop {state:=.ready,pending:=none,fn:=fn,tmps:=a.tmps,params:=ps,assign:=Sz,body:=body,defers:=w.heap.size}) (n:=0) ((w.alloc (.deferred (some []))).alloc (.loop {state:=.ready,pending:=none,fn:=fn,tmps:=a.tmps,params:=ps,assign:=Sz,body:=body,defers:=w.heap.size})) rfl rfl (Tp.r rfl rfl) rfl E2 hE2
    ⟨a.tmps,w.heap.size,fn,rfl,(R9.vt.mono a4).mono hle2,R9.vs,(hle2 nx _ a5).1⟩
   have X:=a3.trans b3
   rw[hsz1] at b5
   obtain⟨dd,args,d1,d2,d3⟩:=e4 none L E2 _ (w.heap.size+1) (a.eval f) hL b1 b2 (R9.vg.step X) b5 (((aK R9.vt hfv).mono a4).mono hle2) Q {a with defers:={target:=.collected w.heap.size,args:= #[]}::a.defers} (by
    intro E' w' q1 q2 q3 q4
    have hle3:=q4.le b2 hL
    subst e1;subst e2
    exact hQ E' _ w' ⟨((R9.vt.mono a4).mono hle2).mono hle3,R9.vs,q1,q2,q3⟩ (Or.inl ⟨rfl,⟨_,_,w.heap.size,rfl,(hle3 nx _ (hle2 nx _ a5).1).1,rfl,((hrd.mono a4).mono hle2).mono hle3⟩⟩) (X.trans q4))
   refine⟨w.heap.size+1,[{target:=.collected w.heap.size,args:= #[]}],_,dd,_,g,args,_,run_enterLoop_outer fn a.tmps ps Sz body,?_,fun _ _=>trivial,d2,fun h=>(by cases h),d3⟩
   have hm:∀v:Value,(#[Operand.const v]).map a.eval= #[v]:=fun v=>by simp[Act.eval]
   simp only[resolve,hm]
   exact d1
  ·
   unfold zG at h3
   rw[bV,l5,kF] at h3
   obtain⟨e1,e2,e3,e4⟩:=wP hI hG h3
   rw[bk] at e3
   refine⟨by omega,?_⟩
   intro r L E a w hL R9 SF Q hQ
   have SF:∃l0,r=some l0∧E.g lb=some l0∧a.defers= []:=by
    rcases SF with⟨_,SF⟩|⟨b,l,hb,h1,h2,h3⟩
    ·exact SF.elim
    ·cases hb;exact⟨l,h1,h2,h3⟩
   obtain⟨l0,rfl,hg0,hds⟩:=SF
   obtain⟨aL,gL,fL,q1,q2,q3,q4⟩:=wN R9.vh hlb hg0
   refine wpIn_rangeFunc ?_
   intro fn _
   obtain⟨E2,hE2⟩:∃E2:Env,E2=⟨fun b=>if b=nx then some w.heap.size else E.g b,fun b=>if b=nx then 0 else E.n b⟩:=⟨_,rfl⟩
   have hle2:=wO R9.vf (show num nx<L by omega) hE2
   obtain⟨b1,b2,b3,b4,b5⟩:=R9.vh.fresh R9.vf (by omega) (k:=.lp .ready none SM tm sz ps Sz body d) (o:=.loop {state:=.ready,pending:=none,fn:=fn,tmps:=a.tmps,params:=ps,assign:=Sz,body:=body,defers:=gL}) (n:=0) (w.alloc (.loop {state:=.ready,pending:=none,fn:=fn,tmps:=a.tmps,params:=ps,assign:=Sz,body:=body,defers:=gL})) rfl rfl (Tp.r rfl rfl) rfl E2 hE2
    ⟨a.tmps,gL,fn,rfl,R9.vt.mono hle2,R9.vs,(hle2 d _ q4).1⟩
   obtain⟨dd,args,d1,d2,d3⟩:=e4 (some l0) L E2 _ w.heap.size (a.eval f) hL b1 b2 (R9.vg.step b3) b5 ((aK R9.vt hfv).mono hle2) Q {a with defers:=[]++a.defers} (by
    intro E' w' p1 p2 p3 p4
    have hle3:=p4.le b2 hL
    subst e1;subst e2
    exact hQ E' _ w' ⟨(R9.vt.mono hle2).mono hle3,R9.vs,p1,p2,p3⟩ (Or.inr ⟨lb,l0,rfl,rfl,(hle3 lb _ (hle2 lb _ hg0).1).1,by simp[hds]⟩) (b3.trans p4))
   refine⟨w.heap.size,[],_,dd,_,g,args,_,run_enterLoop_inner q1 fn a.tmps ps Sz body,?_,fun _ _=>trivial,d2,fun h=>(by cases h),d3⟩
   have hm:∀v:Value,(#[Operand.const v]).map a.eval= #[v]:=fun v=>by simp[Act.eval]
   simp only[resolve,hm]
   exact d1
 ·cases h2
end
end Go.Cm
namespace Go.Cm
section
variable{P:Program} {gl:List V} {ih:dc} {hf:Hk}
theorem th{op:Op}{f:Operand}{args:List Operand}(h:c6 P gl op= .val f args):∃c,op= .call c∧c.callee= .value f∧c.args.toList=args:=by
 cases op<;>simp only[c6] at h
 case call c=>
  split at h
  ·cases h
  ·rename_i b' Sb;cases h;exact⟨c,rfl,Sb,rfl⟩
  ·cases h
 case defer c=>split at h<;>cases h
 all_goals(cases hs:l8 P gl _ with|mk g=>rw[hs] at h;cases h)
theorem tj{op:Op}{f:Operand}{name:String}{args:List Operand}(h:c6 P gl op= .inv f name args):∃c,op= .call c∧c.callee= .invoke f name∧c.args.toList=args:=by
 cases op<;>simp only[c6] at h
 case call c=>
  split at h
  ·cases h
  ·cases h
  ·rename_i b' Sb;cases h;exact⟨c,rfl,Sb,rfl⟩
 case defer c=>split at h<;>cases h
 all_goals(cases hs:l8 P gl _ with|mk g=>rw[hs] at h;cases h)
theorem AW{op:Op}{f:Operand}{args:List Operand}(h:c6 P gl op= .wE f args):∃c,op= .defer c∧c.callee= .value f∧c.args.toList=args:=by
 cases op<;>simp only[c6] at h
 case call c=>split at h<;>cases h
 case defer c=>
  split at h
  ·rename_i b' Sb;cases h;exact⟨c,rfl,Sb,rfl⟩
  ·cases h
 all_goals(cases hs:l8 P gl _ with|mk g=>rw[hs] at h;cases h)
theorem CV{o:Oper}{sz:Nat}{tm:T V}{hp:T aj}{nx:Id}{df:V}{v:V}{R0:T aj}{RY:Id}(hnd:∀c,o.op≠.defer c)(hd:l9 sz o.dst=true)(hn:num nx≤num RY)
 (h:∀L E a w,num RY≤L→Ok gl L sz tm hp nx E a w→
  (∃f args,(execOp a.eval o).run P w= .ok (.enter f args) w∧CallsIn Fence.wide 0 P f args w (fun e w'=>∃u E',e= .returned u∧RV E' v u∧RH E' R0 w'∧bI L RY E'∧Ex hp nx E w R0 RY E' w'))∨
  (∃l fn tmps Sz body,(execOp a.eval o).run P w= .ok (.round l fn tmps Sz body) w∧RoundIn Fence.wide 0 P l fn tmps Sz body w (fun e w'=>∃u E',e= .returned u∧RV E' v u∧RH E' R0 w'∧bI L RY E'∧Ex hp nx E w R0 RY E' w'))):
 jL P gl o sz tm hp nx df (Bh o.dst (some v) tm) R0 RY df:=by
 refine⟨hn,?_⟩
 intro r L E a w hL R9 SF K Q hK
 unfold Oper.wpIn
 refine⟨fun _ _=>trivial,?_⟩
 rw[Oper.semAt_eq _ _ _ hnd]
 have post:∀(ed:Ending)(w':World),(∃u E',ed= .returned u∧RV E' v u∧RH E' R0 w'∧bI L RY E'∧Ex hp nx E w R0 RY E' w')→
  (match ed,w' with
   | .returned v,w''=>K (a.put o.dst v) w''
   | .panicked chain,w''=>Q (.panic chain) a w''
   | .outgrown,_=>LetsOut Q):=by
  rintro ed w' ⟨u,E',rfl,q1,q2,q3,q4⟩
  have hle:=q4.le R9.vf hL
  exact hK E' (a.put o.dst u) w' (R9.Qm hL hd q1 q2 q3 q4) (by rw[put_defers];exact SF.mono hle) q4
 rcases h L E a w hL R9 with⟨f,args,h1,h2⟩|⟨l,fn,tmps,Sz,body,h1,h2⟩
 ·rw[h1]
  simp only[Oper.uponIn]
  exact⟨fun h=>(by cases h),CallsIn.mono (F:=Fr r) h2 post⟩
 ·rw[h1]
  simp only[Oper.uponIn]
  exact⟨fun h=>(by cases h),RoundIn.mono (F:=Fr r) h2 post⟩
theorem E7(hI:rW P gl ih)(hG:vB P gl hf){o:Oper}{sz:Nat}{tm:T V}{hp:T aj}{nx:Id}{df:V}{k:iL}{f:Operand}{args:List Operand}{R:Rs}(hc:c6 P gl o.op= .val f args)(hd:l9 sz o.dst=true)(h:MS P hf ih o.dst tm hp nx df k f args=some R):
 ∃Sf R0 RY Si,k Sf R0 RY Si=some R∧jL P gl o sz tm hp nx df Sf R0 RY Si:=by
 obtain⟨fv,h1,h2⟩:=aa h
 obtain⟨x,h3,h4⟩:=aa h2
 obtain⟨c,c1,c2,c3⟩:=th hc
 subst c3
 have hnd:∀c,o.op≠.defer c:=by rw[c1];intro c hc;cases hc
 rcases kz h4 with⟨g,fs,cs,rfl,h5⟩|⟨b,rfl,h5⟩
 ·rw[kF] at h5
  obtain⟨v,R0,RY,h6,q1,q2,q3⟩:=jj hI hG.JF hG.hash hG.Kj hG.ext h5
  rw[eE] at h6
  refine⟨_,_,_,_,h6,CV hnd hd q2 ?_⟩
  intro L E a w hL R9
  left
  have hfv:=aK R9.vt h1
  simp only[RV] at hfv
  obtain⟨f',c',Sj,r1,r2⟩:=hfv
  have hv:=r1.app ((eD R9.vt h3).app r2)
  have hcall:=q3 L E w _ hL hv R9.vh R9.vf R9.vg
  refine⟨g,_,?_,hcall⟩
  simp only[execOp,c1,resolve,c2,Sj,Sem.run_bind,Deferred.ofValue,Sem.run_pure,Result.andThen_ok,invoke]
  rw[q1]
  congr 2
  apply Array.ext'
  simp
 ·obtain⟨v,R0,RY,h6,q2,q3⟩:=tg hI h5
  rw[eE] at h6
  refine⟨_,_,_,_,h6,CV hnd hd q2 ?_⟩
  intro L E a w hL R9
  right
  have hfv:=aK R9.vt h1
  simp only[RV] at hfv
  obtain⟨l,hg,Sj⟩:=hfv
  obtain⟨fn,tmps,Sz,body,y1,y2⟩:=q3 L E w _ l hL (eD R9.vt h3) R9.vh R9.vf R9.vg hg
  refine⟨l,fn,tmps,Sz,body,?_,y2⟩
  simp only[execOp,c1,resolve,c2,Sj,Sem.run_bind,Deferred.ofValue,Sem.run_pure,Result.andThen_ok,invoke,Array.empty_append]
  have:(c.args.toList.map a.eval).toArray=c.args.map a.eval:=by apply Array.ext';simp
  rw[←this];exact y1
theorem wQ(name:String):∀l:List Method,dV l name=l.find? (fun m=>m.name==name)
 |[]=>rfl
 |
  m::l=>by
  show@Bool.rec (fun _=>Option Method) (dV l name) (some m) (m.name==name)=_
  rw[List.find?_cons,wQ name l]
  cases m.name==name<;>rfl
theorem qU{t:TypeId}(h:zE P t=some none):∃d,P.underlying t=some d∧∀e,d≠.pointer e:=by
 obtain⟨d,hd,h1⟩:=aa h
 refine⟨d,hd,fun e he=>?_⟩
 subst he;cases h1
theorem yr{t e:TypeId}(h:zE P t=some (some e)):P.underlying t=some (.pointer e):=by
 obtain⟨d,hd,h1⟩:=aa h
 cases d<;>cases h1
 exact hd
theorem tn{E:Env}{w:World}{hp:T aj}{hb:Id→Option aj}(hH:RH E hp w)(hB:∀b k,hb b=some k→get b hp=some k){t:TypeId}{v:V}{u:Value}{name:String}{g:FuncId}{y:V}(hv:RV E v u)(h:nY P hb t v name=some (g,y))(n:Nat):
 ∃z,(method (n+1) t u name).run P w= .ok (g,z) w∧RV E y z:=by
 obtain⟨i,hi,h1⟩:=aa h
 obtain⟨m,hm,h2⟩:=aa h1
 obtain⟨fp,hfp,h3⟩:=aa h2
 obtain⟨g0,pr⟩:=fp
 rw[wQ] at hm
 have hm':i.methods.find? (fun m=>m.name==name)=some m:=by rw[←Array.find?_toList];exact hm
 unfold method
 simp only[Sem.run_bind,jn hi,Result.andThen_ok,hm']
 cases hpath:m.path.toList with
 |
  nil=>
  rw[hpath] at h3
  have hem:m.path.isEmpty=true:=by
   have:m.path= #[]:=Array.ext' hpath
   rw[this];rfl
  simp only[follow,Sem.run_pure,Result.andThen_ok,hfp,Sem.run_bind,hem,if_true]
  obtain⟨e,he,h4⟩:=aa h3
  cases e with
  |
   none=>
   obtain⟨d,hd,hno⟩:=qU he
   cases pr with
   |true=>cases h4
   |
    false=>
    cases h4
    refine⟨u,?_,hv⟩
    simp only[receiverAt,Sem.run_bind,ar hd,Result.andThen_ok]
    cases d<;>first|rfl|exact absurd rfl (hno _)
  |
   some e=>
   have hd:=yr he
   cases pr with
   |
    true=>
    cases h4
    refine⟨u,?_,hv⟩
    simp only[receiverAt,Sem.run_bind,ar hd,Result.andThen_ok]
    rfl
   |false=>cases h4
 |
  cons s rest=>
  rw[hpath] at h3
  cases rest with
  |cons _ _=>cases h3
  |
   nil=>
   have hem:m.path.isEmpty=false:=by
    cases hq:m.path.isEmpty with
    |false=>rfl
    |
     true=>
     have:m.path= #[]:=by simpa using hq
     rw[this] at hpath;cases hpath
   obtain⟨hder,h4⟩:=ah h3
   obtain⟨p,R0,h5⟩:=aa h4
   obtain⟨d,hd,h6⟩:=aa h5
   cases d with
   |
    struct fs=>
    obtain⟨f,hfld,h7⟩:=aa h6
    obtain⟨e,he,h8⟩:=aa h7
    obtain⟨d',hd',k1⟩:=aa R0
    rw[hd] at hd';cases hd'
    obtain⟨f',hf',k2⟩:=aa k1
    rw[hfld] at hf';cases hf'
    obtain⟨j,hj,k3⟩:=aa k2
    obtain⟨k4,k5⟩:=ah k3
    obtain⟨b,o,hve,k6⟩:=eA k5
    subst hve
    rw[cj] at k6
    cases k6
    simp only[RV] at hv
    obtain⟨gb,hgb,rfl⟩:=hv
    rw[dD] at hfld
    have hfld':fs[s.index]? =some f:=by simpa using hfld
    have R7:¬j.size=0:=fun e=>by rw[e] at k4;cases k4
    have hfol:(follow [s] t (.val (.pointer (some ⟨gb,o,none⟩)))).run P w= .ok (f.type,.var ⟨gb,o+f.offset,none⟩) w:=by
     simp[follow,ar hd,hfld',hder,Place.get,asAddr,fieldPlace,aU hj,R7,dZ]
    simp only[hfol,Sem.run_pure,Result.andThen_ok,hfp,Sem.run_bind,hem,Bool.false_eq_true,if_false]
    have hptr:RV E (.p b (Nat.add o f.offset)) (.pointer (some ⟨gb,o+f.offset,none⟩)):=by simp only[RV];exact⟨gb,hgb,rfl⟩
    cases e with
    |some e=>cases h8
    |
     none=>
     obtain⟨dt,hdt,hno⟩:=qU he
     cases pr with
     |
      true=>
      cases h8
      refine⟨_,?_,hptr⟩
      simp only[receiverAt,Sem.run_bind,ar hdt,Result.andThen_ok]
      cases dt<;>first|rfl|exact absurd rfl (hno _)
     |
      false=>
      obtain⟨z,hz,h9⟩:=aa (show(bO (dJ P hb f.type (.p b (Nat.add o f.offset))) fun x=>some (g0,x))=some (g,y) from h8)
      cases h9
      obtain⟨zv,z1,z2⟩:=gS (P:=P) (w:=w) hH hB hptr hz
      refine⟨zv,?_,z2⟩
      have z1':(loadVar f.type ⟨gb,o+f.offset,none⟩).run P w= .ok zv w:=by
       simpa[Instr.loadAt,Instr.sureAddr] using z1
      simp only[receiverAt,Sem.run_bind,ar hdt,Result.andThen_ok]
      cases dt<;>first|(simp only[Place.get,z1',Result.andThen_ok];done)|exact absurd rfl (hno _)
   |_=>cases h6
theorem E8(hI:rW P gl ih)(hG:vB P gl hf){o:Oper}{sz:Nat}{tm:T V}{hp:T aj}{nx:Id}{df:V}{k:iL}{f:Operand}{name:String}{args:List Operand}{R:Rs}(hc:c6 P gl o.op= .inv f name args)(hd:l9 sz o.dst=true)(h:MT P hf ih o.dst tm hp nx df k f name args=some R):
 ∃Sf R0 RY Si,k Sf R0 RY Si=some R∧jL P gl o sz tm hp nx df Sf R0 RY Si:=by
 obtain⟨rv,h1,h2⟩:=aa h
 obtain⟨x,h3,h4⟩:=aa h2
 obtain⟨c,c1,c2,c3⟩:=tj hc
 subst c3
 have hnd:∀c,o.op≠.defer c:=by rw[c1];intro c hc;cases hc
 rcases mI h4 with⟨t,v,rfl,h5⟩|⟨_,h5⟩
 ·obtain⟨fx,hfx,h6⟩:=aa h5
  obtain⟨g,y⟩:=fx
  obtain⟨v',R0,RY,h7,q1,q2,q3⟩:=jj hI hG.JF hG.hash hG.Kj hG.ext h6
  rw[eE] at h7
  refine⟨_,_,_,_,h7,CV hnd hd q2 ?_⟩
  intro L E a w hL R9
  left
  have hrv:=aK R9.vt h1
  simp only[RV] at hrv
  obtain⟨u,Sj,hu⟩:=hrv
  have hmd:Made.depth≥1:=by decide
  obtain⟨n,hn⟩:∃n,P.types.size+Made.depth=n+1:=⟨P.types.size+(Made.depth -1),by omega⟩
  obtain⟨z,z1,z2⟩:=tn (P:=P) (w:=w) R9.vh (fun _ _ hb=>hb) hu hfx n
  have hcall:=q3 L E w (z::c.args.toList.map a.eval) hL (aH.aw.2 ⟨_,_,rfl,z2,eD R9.vt h3⟩) R9.vh R9.vf R9.vg
  refine⟨g,_,?_,hcall⟩
  simp only[execOp,c1,resolve,c2,Sem.run_bind,Sem.run_pure,Result.andThen_ok,invoke,Sj]
  have e1:(#[Value.iface t u]++c.args.map a.eval)[0]? =some (.iface t u):=by rw[Array.getElem?_append];rfl
  have e2:(#[Value.iface t u]++c.args.map a.eval).extract 1 (#[Value.iface t u]++c.args.map a.eval).size=c.args.map a.eval:=by
   apply Array.ext'
   simp
   apply List.take_of_length_le
   simp
  simp only[e1,e2,callMethod,Sem.run_bind,run_program,Result.andThen_ok]
  rw[hn,z1]
  simp only[Result.andThen_ok]
  rw[q1]
  congr 2
  apply Array.ext'
  simp
 ·cases h5
theorem E9{o:Oper}{sz:Nat}{tm:T V}{hp:T aj}{nx:Id}{df:V}{k:iL}{f:Operand}{args:List Operand}{R:Rs}(hc:c6 P gl o.op= .wE f args)(h:MU o.dst tm hp nx df k f args=some R):
 ∃Sf R0 RY Si,k Sf R0 RY Si=some R∧jL P gl o sz tm hp nx df Sf R0 RY Si:=by
 obtain⟨fv,h1,h2⟩:=aa h
 obtain⟨x,h3,h4⟩:=aa h2
 obtain⟨hch,h5⟩:=ah h4
 obtain⟨c,c1,c2,c3⟩:=AW hc
 subst c3
 rcases kz h5 with⟨g,fs,cs,rfl,h6⟩|⟨_,_,h6⟩
 ·rcases bF h6 with⟨rfl,h7⟩|⟨_,_,_,h7⟩
  ·rw[eE] at h7
   refine⟨_,_,_,_,h7,Nat.le_refl _,?_⟩
   intro r L E a w hL R9 SF K Q hK
   have SF:r=none∧RD E df a.defers:=by
    rcases SF with SF|⟨b,l,hb,_⟩
    ·exact SF
    ·rw[hb] at hch;cases hch
   obtain⟨rfl,hrd⟩:=SF
   have hfv:=aK R9.vt h1
   simp only[RV] at hfv
   obtain⟨f',c',Sj,r1,r2⟩:=hfv
   have hnil:=eD R9.vt h3
   rw[aH.bL] at hnil
   have hargs:c.args.map a.eval= #[]:=by apply Array.ext';simpa using hnil
   unfold Oper.wpIn
   refine⟨fun _ _=>trivial,?_⟩
   rw[show(Fr none).round=none from rfl,Oper.semAt_none]
   have Ss:(execOp a.eval o).run P w= .ok (.defer {target:=.fn (.func g) c',args:=f'}) w:=by
    simp only[execOp,c1,resolve,c2,Sj,Sem.run_bind,Deferred.ofValue,Sem.run_pure,Result.andThen_ok,hargs,Array.append_empty]
   rw[Ss]
   simp only[Oper.uponIn]
   refine hK E _ w ⟨CS (a:={a with defers:={target:=.fn (.func g) c',args:=f'}::a.defers}) R9.vt,by rw[gC];exact R9.vs,R9.vh,R9.vf,R9.vg⟩ (Or.inl ⟨rfl,?_⟩) (Ex.refl _ _ _ _)
   rw[put_defers]
   exact⟨_,_,f',c',rfl,rfl,r1,r2,hrd⟩
  ·cases h7
 ·cases h6
theorem JG(hI:rW P gl ih)(hG:vB P gl hf){o:Oper}{sz:Nat}{tm:T V}{hp:T aj}{nx:Id}{df:V}{k:iL}{R:Rs}(hd:l9 sz o.dst=true)(h:MV P gl hf ih o tm hp nx df k=some R):
 ∃Sf R0 RY Si,k Sf R0 RY Si=some R∧jL P gl o sz tm hp nx df Sf R0 RY Si:=by
 unfold MV at h
 cases hc:c6 P gl o.op with
 |op f=>rw[hc] at h;exact JD hc hd h
 |blt b args ts=>rw[hc] at h;exact EP hc hd h
 |val f args=>rw[hc] at h;exact E7 hI hG hc hd h
 |inv r name args=>rw[hc] at h;exact E8 hI hG hc hd h
 |wE f args=>rw[hc] at h;exact E9 hc h
 |no=>rw[hc] at h;cases h
theorem JH(hI:rW P gl ih)(hG:vB P gl hf){id:Nat}{ops:Array Oper}{sz:Nat}{tm:T V}{hp:T aj}{nx:Id}{df:V}{x:Xt}{Sf:T V}{R0:T aj}{RY:Id}{Si:V}(h:AQ P gl hf ih sz ops.toList ops.toList tm hp nx df=some (.mk x Sf R0 RY Si)):
 ep P gl (.region id ops false) sz tm hp nx df x Sf R0 RY Si:=by
 obtain⟨i1,i2,i3⟩:=uL (ops:=ops) (fun o tm hp nx df k R hd hh=>JG hI hG hd hh) ops.toList 0 rfl tm hp nx df x Sf R0 RY Si h
 refine⟨i2,?_⟩
 intro r L E a w hL R9 SF Q hQ
 subst i1
 refine wpIn_region ?_
 have:=i3 r L E a w hL R9 SF Q hQ
 simpa using this
end
end Go.Cm
