/- What the run of the closed function needs: functions are entered, the digest, the members. -/
import Derived.Test.YtmpdeifdnbhdiaaGreatDoorL9
import Derived.Test.YtmpdeifdnbhdiaaGreatDoorM1
import Derived.Test.YtmpdeifdnbhdiaaGreatDoorS1
namespace Go.Proofs.YtmpdeifdnbhdiaaGreatDoor
open Go.Cm
theorem CZ:(Tryz.prog.funcs.toList.all fun fn=> !(fn.name== "runtime.NumGoroutine"))=true:=by kernel_rfl
theorem enters:Go.Cm.Enters Tryz.prog:=by
 intro f fn hf hb vs w
 have hn:=List.all_eq_true.1 CZ fn (List.mem_of_getElem? (by simpa using hf))
 have hn':fn.name≠ "runtime.NumGoroutine" :=by simpa using hn
 simp[callFunc,hf,hn',hb]
theorem bp:Tryz.prog.follows .mixedOrders=true:=tied.bp
theorem Iv{E:Env}{hp:T aj}{w:World}(h:GL gw hp E w):Go.Abs.rZ gl (Go.Abs.er w) w:=by
 refine⟨?_,trivial⟩
 intro x hx
 simp only[gl,Go.Abs.Ctx.of,List.mem_cons,List.not_mem_nil,or_false] at hx
 rcases hx with rfl
 ·exact xS h (k:=.u32) (zs:=gV) (g:=0) (by rw[rK];rfl) (by decide) (by decide+kernel) (by decide+kernel)
theorem Nc(E:Go.Abs.Env)(w:World)(h:Go.Abs.rZ gl E w):PL gw w:=by
 have hg:=h.1
 simp only[gl,Go.Abs.Ctx.of,List.mem_cons,List.not_mem_nil,or_false,forall_eq_or_imp,forall_eq] at hg
 intro g x hx
 match g,hx with
 |
  0,hx=>
  cases hx
  have:=IT (k:=.u32) (by decide) hg.2
  rw[rK] at this
  exact this
 |g+1,hx=>cases hx
theorem zN{n b:Nat}{k:Go.Abs.aj}:(List.replicate n (none:Option Go.Abs.aj))[b]? ≠some (some k):=by
 intro h
 have:=List.mem_of_getElem? h
 have:=List.eq_of_mem_replicate this
 cases this
theorem Fe:∀args hp v,sZ hp args=some v→∀nx,dz Tryz.prog gw 42 args hp nx v hp nx:=
 xQ (C:=gl) (fun b k=>zN) (fun E hp w h=>Iv h)
  (fun ps d h1 h2 h3 h4=>Oz (ps.map up) (up d) (I2 ps d h1 h2 h3 h4)) (by
   obtain⟨fn,hf,hb⟩:∃fn,Tryz.prog.funcs[42]? =some fn∧fn.body≠none:=⟨Tryz.f42,Tryz.func42,by intro h;cases h⟩
   exact enters _ fn hf hb) (fun s d h=>Ef h)
def AY:List (Go.Abs.Ty.den aY):=[((5:Int),(0:Int),List.replicate 32 (0:Int),([]:List (List Int)),()),((2:Int),(0:Int),List.replicate 32 (0:Int),([]:List (List Int)),()),((5:Int),(0:Int),List.replicate 32 (0:Int),([]:List (List Int)),())]
theorem Pj:jk AY (List.length AY+1) 0 []=some [(5,2),(2,1)]:=by kernel_rfl
theorem Pk:gD [(5,2),(2,1)] [2,5] 3 0 []=some [1,2]:=by kernel_rfl
theorem Pm:Go.Abs.rk [((5:Int),(2:Int)),(2,1)]=some [2,5]:=by
 simp[Go.Abs.rk,Go.Abs.gK,Go.Abs.az,List.mergeSort,List.MergeSort.Internal.splitInTwo,List.merge]
theorem Nd:zO AY=some ([2,5],[1,2]):=by
 unfold zO
 rw[Pj]
 show Option.bind (Go.Abs.rk [((5:Int),(2:Int)),(2,1)]) (fun y7=>Option.bind (gD [(5,2),(2,1)] y7 (List.length y7+1) 0 []) fun o9=>some (y7,o9))=_
 rw[Pm]
 show Option.bind (gD [(5,2),(2,1)] [2,5] 3 0 []) (fun o9=>some (([2,5]:List Int),o9))=_
 rw[Pk]
 rfl
theorem JL:Kv (FY aY) 3 mc=some (AY,.nil):=by kernel_rfl
theorem JM:∀args hp nx v R0 RY,xm args hp nx=some (.mk v R0 RY)→dz Tryz.prog gw 8 args hp nx v R0 RY:=
 Az (C:=gl) (bs:=72) (T:=aY) (xs:=AY) (X:=40) (Y:=57) (fun b k=>zN) rfl rfl (by decide) (by decide) (by decide) (fun E hp w h=>Iv h) JL (by decide) (by decide) (by decide) (Ns AY _ Nd)
theorem la:vB Tryz.prog gw sJ:=⟨enters,Fe,BA (fun e he=>by cases he),JM⟩
end Go.Proofs.YtmpdeifdnbhdiaaGreatDoor
