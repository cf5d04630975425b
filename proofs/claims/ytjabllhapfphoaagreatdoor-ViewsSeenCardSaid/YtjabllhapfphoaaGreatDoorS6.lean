/- The closed function gives true: its contract for the abstract machine. -/
import Derived.Test.YtjabllhapfphoaaGreatDoorS3
import Derived.Test.YtjabllhapfphoaaGreatDoorS4
import Derived.Test.YtjabllhapfphoaaGreatDoorS7
namespace Go.Proofs.YtjabllhapfphoaaGreatDoor
open Go.Cm

theorem cb_ok : Tryz.f5.body = some cb := by kernel_rfl

theorem sane_call : ∃ hp nx, CallOK Tryz.prog glX 5 .nil .e [] (.b true) hp nx := by
  obtain ⟨tm, hp, nx, df, h1, h2⟩ := finR_ok segF
  have sF := seg_ok giv2 orders h1
  have s := snd_cut (c := cb) (by kernel_rfl) (seg_ok giv2 orders seg0) (snd_cut (c := (sndC cb)) (by kernel_rfl) (seg_ok giv2 orders seg1) (snd_cut (c := (sndC (sndC cb))) (by kernel_rfl) (seg_ok giv2 orders seg2) (snd_cut (c := (sndC (sndC (sndC cb)))) (by kernel_rfl) (seg_ok giv2 orders seg3) (snd_cut (c := (sndC (sndC (sndC (sndC cb))))) (by kernel_rfl) (seg_ok giv2 orders seg4) (snd_cut (c := (sndC (sndC (sndC (sndC (sndC cb)))))) (by kernel_rfl) (seg_ok giv2 orders seg5) (snd_cut (c := (sndC (sndC (sndC (sndC (sndC (sndC cb))))))) (by kernel_rfl) (seg_ok giv2 orders seg6) (snd_cut (c := (sndC (sndC (sndC (sndC (sndC (sndC (sndC cb)))))))) (by kernel_rfl) (seg_ok giv2 orders seg7) (sF))))))))
  refine ⟨hp, nx, call_of_body enters Tryz.func5 cb_ok (Or.inr rfl) s (y := .cons (.b true) .nil) ?_⟩
  show (bO (get (idOf 0) tm) fun v => bO (some V.nil) fun l => some (V.cons v l)) = _
  rw [h2]; rfl

theorem sane_fc (H : List (Option Go.Abs.Blk)) : Go.Abs.Fc Tryz.prog gl 5 [] H (.ret (.val .bool true)) H := by
  obtain ⟨hp, nx, h⟩ := sane_call
  exact fc_of_call bc_of h H
end Go.Proofs.YtjabllhapfphoaaGreatDoor
