/- part -/
import Derived.Test.YtgdcjlldafmomaaGreatUN
import Derived.Test.YtgdcjlldafmomaaGreatY1
noncomputable section
namespace Go.Proofs.YtgdcjlldafmomaaGreat
open Go.Ax
def Gc(a0:Zn):Zf:=
 some a0
def V6:SS:=⟨4,44,[(2,.func 73 .nil (.cons (pP 17) .nil))],[(0,.map (.int .i64) .bool),(17,.var (.map (.int .i64) .bool) (.mp 0))],[]⟩
def Mc:aW:=aF G [.tmp 2] 45 [.mp 0] [(0,.map (.int .i64) .bool)] 44 V6 [0,17] (.bH (u1 Gc))
theorem Md:hS Mc:=
 cO (hR []) hz aJ Tryz.call45 Tryz.func45
def Bw(a0:Zn):Option (Zn×Ze):=
 Option.map (fun r=>(a0,r)) (yw a0)
def ON:SS:=⟨9,49,[(2,.own 23)],[(0,.var (.map (.int .i64) .bool) (.mp 1)),(1,.map (.int .i64) .bool),(23,.row 3 8 (.int .i64))],[]⟩
def Me:aW:=aF G [.tmp 2] 44 [.func 73 .nil (.cons (pP 0) .nil)] [(0,.var (.map (.int .i64) .bool) (.mp 1)),(1,.map (.int .i64) .bool)] 49 ON [0,1,23] (.bH (u1 Bw))
theorem Mf:hS Me:=
 ⟨fun d y h=>by
  obtain⟨r,hr,rfl⟩:=Option.map_eq_some_iff.1 (show Option.map _ (yw d.1)=some y from h)
  exact cast (by kernel_rfl) (GR (tv:=(.map (.int .i64) .bool)) OR JW Mk (show¬gl.md from fun h=>h) Tryz.call44 Tryz.call72 Tryz.call73 (by exact hr) 49 23 (by decide) (by decide) (by decide)),fun _ _ h=>h.elim⟩
end Go.Proofs.YtgdcjlldafmomaaGreat
