/- What the run of the closed function needs: functions are entered, the digest. -/
import Derived.Test.YtjabllhapfphoaaGreatDoorL9
import Derived.Test.YtjabllhapfphoaaGreatDoorS1
namespace Go.Proofs.YtjabllhapfphoaaGreatDoor
open Go.Cm
theorem Bx:(Tryz.prog.funcs.toList.all fun fn=> !(fn.name== "runtime.NumGoroutine"))=true:=by kernel_rfl
theorem enters:pQ Tryz.prog:=by
 intro f fn hf hb vs w
 have hn:=List.all_eq_true.1 Bx fn (List.mem_of_getElem? (by simpa using hf))
 have hn':fn.name≠ "runtime.NumGoroutine" :=by simpa using hn
 simp[callFunc,hf,hn',hb]
theorem cY:Tryz.prog.follows .mixedOrders=true:=tied.cY
theorem H8{E:Env}{hp:T ak}{w:World}(h:GL kZ hp E w):Go.Abs.tG gl (Go.Abs.ei w) w:=by
 refine⟨?_,trivial⟩
 intro x hx
 simp only[gl,Go.Abs.Ctx.of,List.mem_cons,List.not_mem_nil,or_false] at hx
 rcases hx with rfl|rfl|rfl|rfl|rfl|rfl
 ·exact gZ h (k:=.i64) (a:=2) (b:=1000) (g:=0) rfl (by decide) (by decide)
 ·exact gZ h (k:=.i64) (a:=1) (b:=255) (g:=1) rfl (by decide) (by decide)
 ·exact gZ h (k:=.i64) (a:=0) (b:=32) (g:=2) rfl (by decide) (by decide)
 ·exact gZ h (k:=.i64) (a:=0) (b:=9) (g:=3) rfl (by decide) (by decide)
 ·exact gZ h (k:=.i64) (a:=0) (b:=1048576) (g:=4) rfl (by decide) (by decide)
 ·exact xH h (k:=.u32) (zs:=gW) (g:=5) (by rw[qb];rfl) (by decide) (by decide+kernel) (by decide+kernel)
theorem H9(E:Go.Abs.Env)(w:World)(h:Go.Abs.tG gl E w):KR kZ w:=by
 have hg:=h.1
 simp only[gl,Go.Abs.Ctx.of,List.mem_cons,List.not_mem_nil,or_false,forall_eq_or_imp,forall_eq] at hg
 obtain⟨h0,h1,h2,h3,h4,h5⟩:=hg
 intro g x hx
 match g,hx with
 |0,hx=>cases hx;exact nb (k:=.i64) h0.2
 |1,hx=>cases hx;exact nb (k:=.i64) h1.2
 |2,hx=>cases hx;exact nb (k:=.i64) h2.2
 |3,hx=>cases hx;exact nb (k:=.i64) h3.2
 |4,hx=>cases hx;exact nb (k:=.i64) h4.2
 |
  5,hx=>
  cases hx
  have:=Gu (k:=.u32) (by decide) h5.2
  rw[qb] at this
  exact this
 |g+6,hx=>cases hx
theorem DQ:∀args hp v,rZ hp args=some v→∀nx,fh Tryz.prog kZ 125 args hp nx v hp nx:=
 xG (C:=gl) (fun b k h=>by
  have:=List.mem_of_getElem? h
  have:=List.eq_of_mem_replicate this
  cases this) (fun E hp w h=>H8 h)
  (fun ps d h1 h2 h3 h4=>Fx (ps.map up) (up d) (DN ps d h1 h2 h3 h4)) (by
   obtain⟨fn,hf,hb⟩:∃fn,Tryz.prog.funcs[125]? =some fn∧fn.body≠none:=⟨Tryz.f125,Tryz.func125,by intro h;cases h⟩
   exact enters _ fn hf hb) (fun s d h=>Ef h)
theorem rJ:tX Tryz.prog kZ z5:=⟨enters,DQ,BR (fun e he=>by cases he)⟩
end Go.Proofs.YtjabllhapfphoaaGreatDoor
