/- The closed function gives true: its contract for the abstract machine. -/
import Derived.Test.YtmpdeifdnbhdiaaGreatDoorS3
import Derived.Test.YtmpdeifdnbhdiaaGreatDoorS4
import Derived.Test.YtmpdeifdnbhdiaaGreatDoorS7
import Derived.Test.YtmpdeifdnbhdiaaGreatDoorSa
import Derived.Test.YtmpdeifdnbhdiaaGreatDoorSb
namespace Go.Proofs.YtmpdeifdnbhdiaaGreatDoor
open Go.Cm
theorem all_nil{α:Type}{p:α→Prop}:∀e∈([]:List α),p e:=fun e h=>by cases h
theorem all_cons{α:Type}{p:α→Prop}{x:α}{l:List α}(h:p x)(hl:∀e∈l,p e):∀e∈x::l,p e:=fun e he=>(List.mem_cons.1 he).elim (fun q=>q▸h) (hl e)
theorem hJ{α:Type}{p:α→Prop}{k l:List α}(h:∀e∈k,p e)(hl:∀e∈l,p e):∀e∈k++l,p e:=fun e he=>(List.mem_append.1 he).elim (h e) (hl e)
theorem kz:tO Tryz.prog fP sB:=zZ kA (hJ (hJ (hJ (hJ (hJ (hJ (hJ (hJ KM KO) KQ) KS) Ks) Ku) Kw) Ky) (all_cons KU (all_cons KX (all_cons KZ (all_cons K1 (all_cons K3 (all_cons K5 (all_cons K7 all_nil))))))))
theorem Gg:Tryz.f5.body=some cb:=by kernel_rfl
theorem yS:∃hp nx,dc Tryz.prog fP 5 .nil .e [] (.b true) hp nx:=by
 obtain⟨tm,hp,nx,df,h1,h2⟩:=Ci JC
 have sF:=dH kz bm h1
 have s:=cT (c:=cb) (by kernel_rfl) (dH kz bm IF) (cT (c:=(al cb)) (by kernel_rfl) (dH kz bm IG) (cT (c:=(al (al cb))) (by kernel_rfl) (dH kz bm IH) (cT (c:=(al (al (al cb)))) (by kernel_rfl) (dH kz bm II) (cT (c:=(al (al (al (al cb))))) (by kernel_rfl) (dH kz bm IJ) (cT (c:=(al (al (al (al (al cb)))))) (by kernel_rfl) (dH kz bm IK) (cT (c:=(al (al (al (al (al (al cb))))))) (by kernel_rfl) (dH kz bm IL) (cT (c:=(al (al (al (al (al (al (al cb)))))))) (by kernel_rfl) (dH kz bm IM) (cT (c:=(al (al (al (al (al (al (al (al cb))))))))) (by kernel_rfl) (dH kz bm IN) (cT (c:=(al (al (al (al (al (al (al (al (al cb)))))))))) (by kernel_rfl) (dH kz bm IP) (cT (c:=(al (al (al (al (al (al (al (al (al (al cb))))))))))) (by kernel_rfl) (dH kz bm Gs) (cT (c:=(al (al (al (al (al (al (al (al (al (al (al cb)))))))))))) (by kernel_rfl) (dH kz bm Gt) (cT (c:=(al (al (al (al (al (al (al (al (al (al (al (al cb))))))))))))) (by kernel_rfl) (dH kz bm Gu) (cT (c:=(al (al (al (al (al (al (al (al (al (al (al (al (al cb)))))))))))))) (by kernel_rfl) (dH kz bm Gv) (cT (c:=(al (al (al (al (al (al (al (al (al (al (al (al (al (al cb))))))))))))))) (by kernel_rfl) (dH kz bm Gw) (sF)))))))))))))))
 refine⟨hp,nx,sc enters Tryz.func5 Gg (Or.inr rfl) s (y:=.cons (.b true) .nil) ?_⟩
 show(bO (get (aA 0) tm) fun v=>bO (some V.nil) fun l=>some (V.cons v l))=_
 rw[h2];rfl
theorem Cv(H:List (Option Go.Abs.ah)):Go.Abs.Fc Tryz.prog gl 5 [] H (.ret (.val .bool true)) H:=by
 obtain⟨hp,nx,h⟩:=yS
 exact wq (fun h=>h) Hq h H
end Go.Proofs.YtmpdeifdnbhdiaaGreatDoor
