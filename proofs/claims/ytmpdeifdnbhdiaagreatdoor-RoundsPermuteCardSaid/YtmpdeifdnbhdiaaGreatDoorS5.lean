/- What the run of the closed function needs: functions are entered, the digest, the members. -/
import Derived.Test.YtmpdeifdnbhdiaaGreatDoorL9
import Derived.Test.YtmpdeifdnbhdiaaGreatDoorM1
import Derived.Test.YtmpdeifdnbhdiaaGreatDoorS1
namespace Go.Proofs.YtmpdeifdnbhdiaaGreatDoor
open Go.Cm
theorem Bj:(Tryz.prog.funcs.toList.all fun fn=> !(fn.name== "runtime.NumGoroutine"))=true:=by kernel_rfl
theorem enters:Go.Cm.Enters Tryz.prog:=by
 intro f fn hf hb vs w
 have hn:=List.all_eq_true.1 Bj fn (List.mem_of_getElem? (by simpa using hf))
 have hn':fn.name≠ "runtime.NumGoroutine" :=by simpa using hn
 simp[callFunc,hf,hn',hb]
theorem bm:Tryz.prog.follows .mixedOrders=true:=tied.bm
theorem D6{E:Env}{hp:T ah}{w:World}(h:GL fP hp E w):Go.Abs.qK gl (Go.Abs.dO w) w:=by
 refine⟨?_,trivial⟩
 intro x hx
 simp only[gl,Go.Abs.Ctx.of,List.mem_cons,List.not_mem_nil,or_false] at hx
 rcases hx with rfl
 ·exact wy h (k:=.u32) (zs:=gF) (g:=0) (by rw[qy];rfl) (by decide) (by decide+kernel) (by decide+kernel)
theorem Hq(E:Go.Abs.Env)(w:World)(h:Go.Abs.qK gl E w):JE fP w:=by
 have hg:=h.1
 simp only[gl,Go.Abs.Ctx.of,List.mem_cons,List.not_mem_nil,or_false,forall_eq_or_imp,forall_eq] at hg
 intro g x hx
 match g,hx with
 |
  0,hx=>
  cases hx
  have:=Er (k:=.u32) (by decide) hg.2
  rw[qy] at this
  exact this
 |g+1,hx=>cases hx
theorem yd{n b:Nat}{k:Go.Abs.ah}:(List.replicate n (none:Option Go.Abs.ah))[b]? ≠some (some k):=by
 intro h
 have:=List.mem_of_getElem? h
 have:=List.eq_of_mem_replicate this
 cases this
theorem Dg:∀args hp v,rE hp args=some v→∀nx,dc Tryz.prog fP 42 args hp nx v hp nx:=
 wv (C:=gl) (fun b k=>yd) (fun E hp w h=>D6 h)
  (fun ps d h1 h2 h3 h4=>IE (ps.map up) (up d) (EB ps d h1 h2 h3 h4)) (by
   obtain⟨fn,hf,hb⟩:∃fn,Tryz.prog.funcs[42]? =some fn∧fn.body≠none:=⟨Tryz.f42,Tryz.func42,by intro h;cases h⟩
   exact enters _ fn hf hb) (fun s d h=>Ct h)
def zl:List (Go.Abs.Ty.den Bk):=[((5:Int),(0:Int),List.replicate 32 (0:Int),([]:List (List Int)),()),((2:Int),(0:Int),List.replicate 32 (0:Int),([]:List (List Int)),()),((5:Int),(0:Int),List.replicate 32 (0:Int),([]:List (List Int)),())]
theorem Jf:iP zl (List.length zl+1) 0 []=some [(5,2),(2,1)]:=by kernel_rfl
theorem Jg:fW [(5,2),(2,1)] [2,5] 3 0 []=some [1,2]:=by kernel_rfl
theorem Jh:Go.Abs.rQ [((5:Int),(2:Int)),(2,1)]=some [2,5]:=by
 simp[Go.Abs.rQ,Go.Abs.ig,Go.Abs.aO,List.mergeSort,List.MergeSort.Internal.splitInTwo,List.merge]
theorem Hr:ye zl=some ([2,5],[1,2]):=by
 unfold ye
 rw[Jf]
 show Option.bind (Go.Abs.rQ [((5:Int),(2:Int)),(2,1)]) (fun y7=>Option.bind (fW [(5,2),(2,1)] y7 (List.length y7+1) 0 []) fun o9=>some (y7,o9))=_
 rw[Jh]
 show Option.bind (fW [(5,2),(2,1)] [2,5] 3 0 []) (fun o9=>some (([2,5]:List Int),o9))=_
 rw[Jg]
 rfl
theorem Fq:Ga (DR Bk) 3 mc=some (zl,.nil):=by kernel_rfl
theorem Fs:∀args hp nx v hp' nx',xm args hp nx=some (.mk v hp' nx')→dc Tryz.prog fP 8 args hp nx v hp' nx':=
 yQ (C:=gl) (bs:=72) (T:=Bk) (xs:=zl) (X:=40) (Y:=57) (fun b k=>yd) rfl rfl (by decide) (by decide) (by decide) (fun E hp w h=>D6 h) Fq (by decide) (by decide) (by decide) (HF zl _ Hr)
theorem kA:tO Tryz.prog fP re:=⟨enters,Dg,zY (fun e he=>by cases he),Fs⟩
end Go.Proofs.YtmpdeifdnbhdiaaGreatDoor
