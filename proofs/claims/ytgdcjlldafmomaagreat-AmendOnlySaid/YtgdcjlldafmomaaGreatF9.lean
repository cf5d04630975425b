/- Made by program (dec6.py): walks -/
import Derived.Test.YtgdcjlldafmomaaGreatUN
import Derived.Test.YtgdcjlldafmomaaGreatY1
noncomputable section
namespace Go.Proofs.YtgdcjlldafmomaaGreat
open Go.Ax
def Eg(a0:Zn):Ze:=
 some a0
def Uv:SS:=⟨4,44,[(2,.func 73 .nil (.cons (pP 17) .nil))],[(0,.map (.int .i64) .bool),(17,.var (.map (.int .i64) .bool) (.mp 0))],[]⟩
def Ku:aT:=aD G [.tmp 2] 45 [.mp 0] [(0,.map (.int .i64) .bool)] 44 Uv [0,17] (.bx (u1 Eg))
theorem Kv:hS Ku:=
 cO (hR []) hz aF Tryz.call45 Tryz.func45
def zu(a0:Zn):Option (Zn×Zf):=
 Option.map (fun r=>(a0,r)) (wa a0)
def M7:SS:=⟨9,49,[(2,.own 23)],[(0,.var (.map (.int .i64) .bool) (.mp 1)),(1,.map (.int .i64) .bool),(23,.row 3 8 (.int .i64))],[]⟩
def Kw:aT:=aD G [.tmp 2] 44 [.func 73 .nil (.cons (pP 0) .nil)] [(0,.var (.map (.int .i64) .bool) (.mp 1)),(1,.map (.int .i64) .bool)] 49 M7 [0,1,23] (.bx (u1 zu))
theorem Kx:hS Kw:=
 ⟨fun d y h=>by
  obtain⟨r,hr,rfl⟩:=Option.map_eq_some_iff.1 (show Option.map _ (wa d.1)=some y from h)
  exact cast (by kernel_rfl) (EU (tv:=(.map (.int .i64) .bool)) Nb Ig KC (show¬gl.md from fun h=>h) Tryz.call44 Tryz.call72 Tryz.call73 (by exact hr) 49 23 (by decide) (by decide) (by decide)),fun _ _ h=>h.elim⟩
end Go.Proofs.YtgdcjlldafmomaaGreat
