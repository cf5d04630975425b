/- The closed function gives true: its contract for the abstract machine. -/
import Derived.Test.YtjabllhapfphoaaGreatDoorS3
import Derived.Test.YtjabllhapfphoaaGreatDoorS4
import Derived.Test.YtjabllhapfphoaaGreatDoorS7
namespace Go.Proofs.YtjabllhapfphoaaGreatDoor
open Go.Cm
theorem Ib:Tryz.f5.body=some cb:=by kernel_rfl
theorem z6:∃hp nx,fh Tryz.prog kZ 5 .nil .e [] (.b true) hp nx:=by
 obtain⟨tm,hp,nx,df,h1,h2⟩:=D6 Jj
 have sF:=jI tW cY h1
 have s:=iz (c:=cb) (by kernel_rfl) (jI tW cY IX) (iz (c:=(bD cb)) (by kernel_rfl) (jI tW cY IY) (iz (c:=(bD (bD cb))) (by kernel_rfl) (jI tW cY IZ) (iz (c:=(bD (bD (bD cb)))) (by kernel_rfl) (jI tW cY I0) (iz (c:=(bD (bD (bD (bD cb))))) (by kernel_rfl) (jI tW cY I1) (iz (c:=(bD (bD (bD (bD (bD cb)))))) (by kernel_rfl) (jI tW cY I2) (iz (c:=(bD (bD (bD (bD (bD (bD cb))))))) (by kernel_rfl) (jI tW cY I3) (iz (c:=(bD (bD (bD (bD (bD (bD (bD cb)))))))) (by kernel_rfl) (jI tW cY I4) (sF))))))))
 refine⟨hp,nx,ua enters Tryz.func5 Ib (Or.inr rfl) s (y:=.cons (.b true) .nil) ?_⟩
 show(bO (get (aN 0) tm) fun v=>bO (some V.nil) fun l=>some (V.cons v l))=_
 rw[h2];rfl
theorem DR(H:List (Option Go.Abs.ak)):Go.Abs.Fc Tryz.prog gl 5 [] H (.ret (.val .bool true)) H:=by
 obtain⟨hp,nx,h⟩:=z6
 exact xF H9 h H
end Go.Proofs.YtjabllhapfphoaaGreatDoor
