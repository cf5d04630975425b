/- The closed function gives true: its contract for the abstract machine. -/
import Derived.Test.YtmpdeifdnbhdiaaGreatDoorS3
import Derived.Test.YtmpdeifdnbhdiaaGreatDoorS4
import Derived.Test.YtmpdeifdnbhdiaaGreatDoorS7
import Derived.Test.YtmpdeifdnbhdiaaGreatDoorSa
import Derived.Test.YtmpdeifdnbhdiaaGreatDoorSb
namespace Go.Proofs.YtmpdeifdnbhdiaaGreatDoor
open Go.Cm
theorem all_nil{α:Type}{p:α→Prop}:∀e∈([]:List α),p e:=fun e h=>by cases h
theorem all_cons{α:Type}{p:α→Prop}{x:α}{l:List α}(h:p x)(hl:∀e∈l,p e):∀e∈x::l,p e:=fun e he=>(List.mem_cons.1 he).elim (fun q=>q▸h) (hl e)
theorem iB{α:Type}{p:α→Prop}{k l:List α}(h:∀e∈k,p e)(hl:∀e∈l,p e):∀e∈k++l,p e:=fun e he=>(List.mem_append.1 he).elim (h e) (hl e)
theorem k9:vB Tryz.prog gw sK:=BB la (iB (iB (iB (iB (iB (iB (iB (iB Re Rg) Ri) Rk) QO) QQ) QS) QU) (all_cons Ro (all_cons Rq (all_cons Ru (all_cons Rx (all_cons Rz (all_cons RE (all_cons RI all_nil))))))))
theorem KE:Tryz.f5.body=some cb:=by kernel_rfl
theorem AD:∃hp nx,dz Tryz.prog gw 5 .nil .e [] (.b true) hp nx:=by
 obtain⟨tm,hp,nx,df,h1,h2⟩:=D6 PG
 have sF:=dX k9 bp h1
 have s:=c7 (c:=cb) (by kernel_rfl) (dX k9 bp OD) (c7 (c:=(an cb)) (by kernel_rfl) (dX k9 bp OE) (c7 (c:=(an (an cb))) (by kernel_rfl) (dX k9 bp OF) (c7 (c:=(an (an (an cb)))) (by kernel_rfl) (dX k9 bp OG) (c7 (c:=(an (an (an (an cb))))) (by kernel_rfl) (dX k9 bp OH) (c7 (c:=(an (an (an (an (an cb)))))) (by kernel_rfl) (dX k9 bp OI) (c7 (c:=(an (an (an (an (an (an cb))))))) (by kernel_rfl) (dX k9 bp OJ) (c7 (c:=(an (an (an (an (an (an (an cb)))))))) (by kernel_rfl) (dX k9 bp OK) (c7 (c:=(an (an (an (an (an (an (an (an cb))))))))) (by kernel_rfl) (dX k9 bp OL) (c7 (c:=(an (an (an (an (an (an (an (an (an cb)))))))))) (by kernel_rfl) (dX k9 bp OM) (c7 (c:=(an (an (an (an (an (an (an (an (an (an cb))))))))))) (by kernel_rfl) (dX k9 bp KQ) (c7 (c:=(an (an (an (an (an (an (an (an (an (an (an cb)))))))))))) (by kernel_rfl) (dX k9 bp KR) (c7 (c:=(an (an (an (an (an (an (an (an (an (an (an (an cb))))))))))))) (by kernel_rfl) (dX k9 bp KS) (c7 (c:=(an (an (an (an (an (an (an (an (an (an (an (an (an cb)))))))))))))) (by kernel_rfl) (dX k9 bp KT) (c7 (c:=(an (an (an (an (an (an (an (an (an (an (an (an (an (an cb))))))))))))))) (by kernel_rfl) (dX k9 bp KU) (sF)))))))))))))))
 refine⟨hp,nx,tQ enters Tryz.func5 KE (Or.inr rfl) s (y:=.cons (.b true) .nil) ?_⟩
 show(bO (get (aB 0) tm) fun v=>bO (some V.nil) fun l=>some (V.cons v l))=_
 rw[h2];rfl
theorem Ei(H:List (Option Go.Abs.aj)):Go.Abs.Fc Tryz.prog gl 5 [] H (.ret (.val .bool true)) H:=by
 obtain⟨hp,nx,h⟩:=AD
 exact xO (fun h=>h) Nc h H
end Go.Proofs.YtmpdeifdnbhdiaaGreatDoor
