/- Made by program (dec.py): the types of the seat, as the abstract machine sees them. -/
import Derived.Test.YtadeibjelmcdgaaGreatProg
import Derived.Test.YtadeibjelmcdgaaGreatA5
import Derived.KernelRfl
namespace Go.Proofs.YtadeibjelmcdgaaGreat
open Go.Ax
abbrev T7:Ty:=(.pair (.int .i64) (.pair (.int .i64) (.pair .bool (.pair (.int .u8) .unit))))
abbrev Oz:Ty:=(.pair .str (.pair (.int .u64) .unit))
abbrev OA:Ty:=(.pair (.aK .ptr) .unit)
abbrev cY:Ty:=(.pair .str (.pair .str (.pair (.int .i64) (.pair (.int .i64) (.pair (.int .i64) .unit)))))
abbrev xS:Ty:=(.pair (.int .i64) (.pair (.int .i64) (.pair (.int .i64) (.pair .str (.pair (.int .i64) (.pair (.slice 16 .str) .unit))))))
abbrev GJ:Ty:=(.arr 4 (.int .i64))
abbrev gn:Ty:=(.pair .str (.pair xS (.pair GJ .unit)))
abbrev iF:Ty:=(.pair (.slice 16 .str) (.pair .str (.pair (.slice 8 (.int .i64)) (.pair (.int .i64) .unit))))
abbrev db:Ty:=(.pair .str (.pair .str (.pair (.int .i64) (.pair (.int .i64) (.pair (.slice 120 gn) (.pair (.slice 72 iF) .unit))))))
abbrev Em:Ty:=(.pair .str (.pair .str (.pair (.int .i64) (.pair cY .unit))))
abbrev En:Ty:=(.pair (.int .i64) (.pair cY (.pair cY .unit)))
abbrev Eo:Ty:=(.pair .str (.pair (.int .i64) (.pair cY .unit)))
abbrev fm:Ty:=(.pair .str (.pair (.int .i64) (.pair (.slice 96 Em) (.pair (.slice 120 En) (.pair (.slice 80 Eo) .unit)))))
abbrev fR:Ty:=(.pair .str (.pair .str (.pair (.int .i64) (.pair (.int .i64) (.pair (.slice 56 cY) .unit)))))
abbrev Ep:Ty:=(.pair .str (.pair .str (.pair (.int .i64) (.pair (.int .i64) .unit))))
abbrev ef:Ty:=(.pair .str (.pair (.slice 48 Ep) (.pair (.int .i64) .unit)))
abbrev dq:Ty:=(.pair (.slice 16 .str) (.pair (.slice 56 cY) (.pair (.slice 96 db) (.pair (.slice 96 fm) (.pair (.slice 72 fR) (.pair (.slice 48 ef) .unit))))))
abbrev zM:Ty:=(.pair dq (.pair (.slice 8 (.int .i64)) .unit))
abbrev bC:Ty:=(.pair (.int .i64) (.pair (.int .i64) (.pair (.int .i64) .unit)))
abbrev oR:Ty:=(.pair (.int .i64) (.pair (.int .i64) .unit))
abbrev aP:Ty:=(.pair bC (.pair (.int .i64) (.pair oR (.pair (.int .i64) (.pair (.int .i64) .unit)))))
abbrev bS:Ty:=(.pair zM (.pair (.slice 64 aP) .unit))
abbrev ep:Ty:=(.pair (.int .i64) (.pair (.int .i64) (.pair (.int .i64) (.pair (.int .i64) (.pair (.int .i64) (.pair (.int .i64) (.pair (.int .i64) (.pair (.slice 8 (.int .i64)) (.pair (.slice 8 (.int .i64)) .unit)))))))))
abbrev bw:Ty:=(.pair bC (.pair (.int .i64) (.pair (.int .i64) .unit)))
abbrev po:Ty:=(.pair (.int .i64) (.pair (.int .i64) (.pair (.int .i64) (.pair (.slice 8 (.int .i64)) .unit))))
abbrev kc:Ty:=(.pair (.int .i64) (.pair (.int .i64) (.pair (.slice 8 (.int .i64)) .unit)))
abbrev cA:Ty:=(.pair dq .unit)
abbrev cE:Ty:=(.pair po (.pair (.int .i64) (.pair (.slice 48 po) (.pair .bool .unit))))
abbrev cF:Ty:=(.pair bS (.pair (.map bC (.slice 64 aP)) (.pair (.int .i64) (.pair (.int .i64) (.pair .bool (.pair (.map (.int .i64) .bool) (.pair (.map bC cE) (.pair (.map bw .bool) (.pair (.slice 40 bw) .unit)))))))))
abbrev IL:Ty:=(.pair cA (.pair fm .unit))
abbrev gD:Ty:=(.pair (.int .i64) (.pair (.map (.int .i64) (.map (.int .i64) .bool)) .unit))
abbrev dV:Ty:=(.arr 1024 (.int .i64))
abbrev gE:Ty:=(.pair (.map .str (.int .i64)) (.pair (.map .str (.int .i64)) (.pair (.map .str (.int .i64)) (.pair (.slice 8 (.map .str (.int .i64))) .unit))))
abbrev fo:Ty:=(.pair (.slice 8 (.int .i64)) .unit)
abbrev IM:Ty:=(.pair (.aK .ptr) (.pair (.aK .ptr) (.pair (.aK .ptr) (.pair .str .unit))))
abbrev IN:Ty:=(.pair (.int .u64) (.pair (.int .u64) (.pair (.int .u32) (.pair (.int .u8) (.pair (.int .u8) (.pair (.int .u8) (.pair (.int .u8) (.pair (.aK .func) (.pair (.aK .ptr) (.pair (.int .i32) (.pair (.int .i32) .unit)))))))))))
abbrev cU:Type:=(List UInt8)×(List UInt8)×Int×Int×Int×Unit
abbrev zo:Type:=Int×Int×Int×(List UInt8)×Int×(List (List UInt8))×Unit
abbrev OB:Type:=List Int
abbrev lk:Type:=(List UInt8)×zo×OB×Unit
abbrev gF:Type:=(List (List UInt8))×(List UInt8)×(List Int)×Int×Unit
abbrev eP:Type:=(List UInt8)×(List UInt8)×Int×Int×(List lk)×(List gF)×Unit
abbrev MP:Type:=(List UInt8)×(List UInt8)×Int×cU×Unit
abbrev MQ:Type:=Int×cU×cU×Unit
abbrev MR:Type:=(List UInt8)×Int×cU×Unit
abbrev ix:Type:=(List UInt8)×Int×(List MP)×(List MQ)×(List MR)×Unit
abbrev eW:Type:=(List UInt8)×(List UInt8)×Int×Int×(List cU)×Unit
abbrev MT:Type:=(List UInt8)×(List UInt8)×Int×Int×Unit
abbrev dz:Type:=(List UInt8)×(List MT)×Int×Unit
abbrev dr:Type:=(List (List UInt8))×(List cU)×(List eP)×(List ix)×(List eW)×(List dz)×Unit
abbrev BB:Type:=dr×(List Int)×Unit
abbrev aW:Type:=Int×Int×Int×Unit
abbrev kf:Type:=Int×Int×Unit
abbrev aM:Type:=aW×Int×kf×Int×Int×Unit
abbrev bH:Type:=BB×(List aM)×Unit
abbrev eY:Type:=Int×Int×Int×Int×Int×Int×Int×(List Int)×(List Int)×Unit
abbrev aT:Type:=aW×Int×Int×Unit
abbrev tj:Type:=Int×Int×Int×(List Int)×Unit
abbrev nN:Type:=Int×Int×(List Int)×Unit
abbrev cq:Type:=dr×Unit
abbrev bJ:Type:=tj×Int×(List tj)×Bool×Unit
abbrev IP:Type:=bH×(Option (List (aW×(List aM))))×Int×Int×Bool×(Option (List (Int×Bool)))×(Option (List (aW×bJ)))×(Option (List (aT×Bool)))×(List aT)×Unit
abbrev jx:Type:=Int×(Option (List (Int×(Option (List (Int×Bool))))))×Unit
abbrev dA:Type:=List Int
def G:bu:=[none,some ⟨(.aK .func),0,0,[]⟩,some ⟨(.int .i64),0,0,[]⟩,some ⟨(.int .i64),0,0,[]⟩,some ⟨.bool,0,0,[]⟩,some ⟨(.int .u8),0,0,[]⟩,some ⟨(.int .u8),0,0,[]⟩,some ⟨T7,0,0,[]⟩,some ⟨T7,0,0,[]⟩,some ⟨.str,0,0,[]⟩,some ⟨.str,0,0,[]⟩,some ⟨.str,0,0,[]⟩,some ⟨(.int .u64),0,0,[]⟩,some ⟨Oz,0,0,[]⟩,some ⟨Oz,0,0,[]⟩,some ⟨(.aK .ptr),0,0,[]⟩,some ⟨(.aK .ptr),0,0,[]⟩,some ⟨(.aK .ptr),0,0,[]⟩,some ⟨OA,0,0,[]⟩,some ⟨OA,0,0,[]⟩,some ⟨(.aK .iface),0,0,[]⟩,some ⟨(.int .i32),0,0,[]⟩,some ⟨(.slice 16 .str),9,0,[]⟩,some ⟨(.slice 56 cY),170,0,[]⟩,some ⟨(.slice 96 db),91,0,[]⟩,some ⟨(.slice 96 fm),73,0,[]⟩,some ⟨(.slice 72 fR),185,0,[]⟩,some ⟨(.slice 48 ef),178,0,[]⟩,some ⟨dq,0,0,[]⟩,some ⟨dq,0,0,[]⟩,some ⟨(.slice 8 (.int .i64)),3,0,[]⟩,some ⟨zM,0,0,[]⟩,some ⟨zM,0,0,[]⟩,some ⟨(.slice 64 aP),43,0,[]⟩,some ⟨bS,0,0,[]⟩,some ⟨bS,0,0,[]⟩,some ⟨ep,0,0,[]⟩,some ⟨ep,0,0,[]⟩,some ⟨bC,0,0,[]⟩,some ⟨bC,0,0,[]⟩,some ⟨oR,0,0,[]⟩,some ⟨oR,0,0,[]⟩,some ⟨aP,0,0,[]⟩,some ⟨aP,0,0,[]⟩,some ⟨(.aK .func),0,0,[]⟩,some ⟨(.aK .func),0,0,[]⟩,some ⟨(.slice 104 ep),37,0,[]⟩,some ⟨(.aK .func),0,0,[]⟩,some ⟨(.aK .func),0,0,[]⟩,some ⟨(.int .i64),0,0,[]⟩,none,some ⟨(.aK .func),0,0,[]⟩,some ⟨(.slice 40 bw),83,0,[]⟩,none,some ⟨(.aK .func),0,0,[]⟩,some ⟨po,0,0,[]⟩,some ⟨po,0,0,[]⟩,none,some ⟨(.aK .func),0,0,[]⟩,some ⟨(.slice 40 kc),66,0,[]⟩,some ⟨(.aK .func),0,0,[]⟩,some ⟨(.aK .func),0,0,[]⟩,some ⟨(.aK .func),0,0,[]⟩,some ⟨(.aK .func),0,0,[]⟩,some ⟨(.aK .func),0,0,[]⟩,some ⟨kc,0,0,[]⟩,some ⟨kc,0,0,[]⟩,some ⟨(.aK .func),0,0,[]⟩,some ⟨(.aK .func),0,0,[]⟩,some ⟨(.slice 96 Em),261,0,[]⟩,some ⟨(.slice 120 En),245,0,[]⟩,some ⟨(.slice 80 Eo),248,0,[]⟩,some ⟨fm,0,0,[]⟩,some ⟨fm,0,0,[]⟩,some ⟨(.aK .func),0,0,[]⟩,some ⟨(.aK .func),0,0,[]⟩,some ⟨(.aK .func),0,0,[]⟩,some ⟨(.aK .func),0,0,[]⟩,some ⟨(.aK .func),0,0,[]⟩,some ⟨(.aK .func),0,0,[]⟩,none,some ⟨(.aK .func),0,0,[]⟩,some ⟨bw,0,0,[]⟩,some ⟨bw,0,0,[]⟩,none,some ⟨(.aK .func),0,0,[]⟩,some ⟨(.aK .func),0,0,[]⟩,some ⟨(.aK .func),0,0,[]⟩,some ⟨(.slice 120 gn),99,0,[]⟩,some ⟨(.slice 72 iF),254,0,[]⟩,some ⟨db,0,0,[]⟩,some ⟨db,0,0,[]⟩,some ⟨(.aK .func),0,0,[]⟩,some ⟨(.aK .func),0,0,[]⟩,some ⟨(.aK .func),0,0,[]⟩,some ⟨xS,0,0,[]⟩,some ⟨xS,0,0,[]⟩,some ⟨GJ,3,8,[]⟩,some ⟨gn,0,0,[]⟩,some ⟨gn,0,0,[]⟩,some ⟨(.aK .func),0,0,[]⟩,some ⟨(.aK .func),0,0,[]⟩,none,some ⟨(.aK .func),0,0,[]⟩,some ⟨(.aK .func),0,0,[]⟩,some ⟨(.aK .ptr),0,0,[]⟩,some ⟨(.aK .func),0,0,[]⟩,some ⟨(.aK .func),0,0,[]⟩,some ⟨(.aK .func),0,0,[]⟩,none,some ⟨(.aK .func),0,0,[]⟩,some ⟨(.aK .func),0,0,[]⟩,some ⟨(.aK .func),0,0,[]⟩,some ⟨(.aK .func),0,0,[]⟩,some ⟨(.aK .func),0,0,[]⟩,some ⟨(.map (.int .i64) .bool),3,4,[]⟩,some ⟨(.aK .func),0,0,[]⟩,some ⟨(.aK .func),0,0,[]⟩,some ⟨(.aK .func),0,0,[]⟩,some ⟨cA,0,0,[]⟩,some ⟨cA,0,0,[]⟩,none,some ⟨(.aK .func),0,0,[]⟩,some ⟨(.aK .func),0,0,[]⟩,some ⟨(.aK .func),0,0,[]⟩,some ⟨(.aK .func),0,0,[]⟩,some ⟨(.fns 5),125,8,[]⟩,none,some ⟨(.aK .func),0,0,[]⟩,some ⟨(.aK .func),0,0,[]⟩,some ⟨(.aK .func),0,0,[]⟩,some ⟨(.map bC (.slice 64 aP)),39,33,[]⟩,some ⟨(.map bC cE),145,142,[]⟩,some ⟨(.map bw .bool),83,4,[]⟩,some ⟨cF,0,0,[]⟩,some ⟨cF,0,0,[]⟩,some ⟨(.aK .func),0,0,[]⟩,some ⟨(.aK .func),0,0,[]⟩,some ⟨(.aK .func),0,0,[]⟩,some ⟨(.aK .func),0,0,[]⟩,some ⟨(.slice 48 po),56,0,[]⟩,some ⟨cE,0,0,[]⟩,some ⟨cE,0,0,[]⟩,some ⟨(.aK .func),0,0,[]⟩,some ⟨bC,0,0,[]⟩,some ⟨bC,0,0,[]⟩,some ⟨(.aK .func),0,0,[]⟩,some ⟨(.aK .func),0,0,[]⟩,some ⟨(.map bC (.slice 16 oR)),39,149,[]⟩,some ⟨(.slice 16 oR),41,0,[]⟩,none,some ⟨(.aK .func),0,0,[]⟩,some ⟨(.aK .ptr),0,0,[]⟩,some ⟨(.aK .func),0,0,[]⟩,some ⟨(.aK .func),0,0,[]⟩,some ⟨(.aK .func),0,0,[]⟩,some ⟨(.aK .func),0,0,[]⟩,some ⟨(.aK .func),0,0,[]⟩,some ⟨(.fns 2),157,8,[]⟩,some ⟨(.aK .func),0,0,[]⟩,some ⟨(.aK .func),0,0,[]⟩,some ⟨(.fns 5),160,8,[]⟩,some ⟨(.aK .func),0,0,[]⟩,none,some ⟨(.aK .func),0,0,[]⟩,some ⟨IL,0,0,[]⟩,some ⟨IL,0,0,[]⟩,some ⟨(.aK .func),0,0,[]⟩,some ⟨(.aK .func),0,0,[]⟩,some ⟨cY,0,0,[]⟩,some ⟨cY,0,0,[]⟩,some ⟨(.aK .func),0,0,[]⟩,some ⟨(.aK .func),0,0,[]⟩,some ⟨(.aK .func),0,0,[]⟩,some ⟨(.aK .func),0,0,[]⟩,some ⟨(.aK .func),0,0,[]⟩,some ⟨(.slice 48 Ep),252,0,[]⟩,some ⟨ef,0,0,[]⟩,some ⟨ef,0,0,[]⟩,some ⟨(.aK .func),0,0,[]⟩,some ⟨(.aK .func),0,0,[]⟩,some ⟨(.map (.int .i64) .bool),3,4,[]⟩,some ⟨(.aK .func),0,0,[]⟩,some ⟨(.slice 56 cY),258,0,[]⟩,some ⟨fR,0,0,[]⟩,some ⟨fR,0,0,[]⟩,some ⟨(.aK .func),0,0,[]⟩,some ⟨(.map (.int .i64) (.map (.int .i64) .bool)),3,115,[]⟩,some ⟨gD,0,0,[]⟩,some ⟨gD,0,0,[]⟩,none,some ⟨(.aK .func),0,0,[]⟩,some ⟨(.aK .func),0,0,[]⟩,some ⟨(.aK .func),0,0,[]⟩,some ⟨(.aK .func),0,0,[]⟩,some ⟨(.aK .func),0,0,[]⟩,some ⟨(.aK .func),0,0,[]⟩,some ⟨(.aK .func),0,0,[]⟩,some ⟨(.aK .func),0,0,[]⟩,some ⟨(.aK .func),0,0,[]⟩,some ⟨(.aK .func),0,0,[]⟩,some ⟨(.aK .func),0,0,[]⟩,some ⟨(.aK .func),0,0,[]⟩,some ⟨(.aK .func),0,0,[]⟩,none,some ⟨(.aK .func),0,0,[]⟩,some ⟨(.aK .func),0,0,[]⟩,some ⟨(.aK .func),0,0,[]⟩,some ⟨(.aK .func),0,0,[]⟩,some ⟨(.aK .func),0,0,[]⟩,some ⟨dV,3,8,[]⟩,some ⟨(.aK .func),0,0,[]⟩,some ⟨dV,3,8,[]⟩,some ⟨(.aK .func),0,0,[]⟩,none,some ⟨(.aK .func),0,0,[]⟩,some ⟨(.aK .func),0,0,[]⟩,some ⟨(.aK .ptr),0,0,[]⟩,none,some ⟨(.aK .func),0,0,[]⟩,some ⟨.unit,0,0,[]⟩,some ⟨.unit,0,0,[]⟩,none,some ⟨(.aK .func),0,0,[]⟩,some ⟨(.aK .func),0,0,[]⟩,some ⟨(.aK .func),0,0,[]⟩,some ⟨(.aK .func),0,0,[]⟩,some ⟨(.aK .func),0,0,[]⟩,some ⟨(.aK .func),0,0,[]⟩,some ⟨(.aK .func),0,0,[]⟩,some ⟨(.aK .func),0,0,[]⟩,some ⟨(.aK .ptr),0,0,[]⟩,some ⟨(.map .str (.int .i64)),9,3,[]⟩,some ⟨(.slice 8 (.map .str (.int .i64))),232,0,[]⟩,some ⟨gE,0,0,[]⟩,some ⟨gE,0,0,[]⟩,some ⟨(.aK .func),0,0,[]⟩,some ⟨(.aK .ptr),0,0,[]⟩,some ⟨(.aK .func),0,0,[]⟩,some ⟨(.aK .ptr),0,0,[]⟩,some ⟨(.aK .func),0,0,[]⟩,some ⟨(.aK .ptr),0,0,[]⟩,some ⟨cY,0,0,[]⟩,some ⟨cY,0,0,[]⟩,some ⟨En,0,0,[]⟩,some ⟨En,0,0,[]⟩,some ⟨(.aK .func),0,0,[]⟩,some ⟨Eo,0,0,[]⟩,some ⟨Eo,0,0,[]⟩,some ⟨(.aK .func),0,0,[]⟩,some ⟨(.aK .func),0,0,[]⟩,some ⟨Ep,0,0,[]⟩,some ⟨Ep,0,0,[]⟩,some ⟨iF,0,0,[]⟩,some ⟨iF,0,0,[]⟩,some ⟨(.aK .func),0,0,[]⟩,some ⟨(.slice 1 .bool),4,0,[]⟩,some ⟨cY,0,0,[]⟩,some ⟨cY,0,0,[]⟩,some ⟨(.aK .func),0,0,[]⟩,some ⟨Em,0,0,[]⟩,some ⟨Em,0,0,[]⟩,some ⟨(.aK .func),0,0,[]⟩,some ⟨(.slice 24 (.slice 8 (.int .i64))),30,0,[]⟩,some ⟨(.aK .func),0,0,[]⟩,some ⟨(.aK .ptr),0,0,[⟨"Len",148,some (268,0,266)⟩,⟨"Less",240,some (268,0,266)⟩,⟨"Pop",241,none⟩,⟨"Push",242,none⟩,⟨"Swap",244,some (268,0,266)⟩]⟩,some ⟨(.slice 8 (.int .i64)),3,0,[]⟩,some ⟨fo,0,0,[]⟩,some ⟨fo,0,0,[]⟩,some ⟨(.aK .func),0,0,[]⟩,some ⟨(.aK .func),0,0,[]⟩,some ⟨(.aK .func),0,0,[]⟩,some ⟨(.aK .func),0,0,[]⟩,some ⟨(.aK .func),0,0,[]⟩,some ⟨(.aK .func),0,0,[]⟩,some ⟨(.aK .func),0,0,[]⟩,some ⟨(.aK .func),0,0,[]⟩,some ⟨(.aK .func),0,0,[]⟩,some ⟨(.aK .func),0,0,[]⟩,some ⟨(.aK .func),0,0,[]⟩,some ⟨(.aK .func),0,0,[]⟩,some ⟨(.aK .func),0,0,[]⟩,some ⟨(.aK .func),0,0,[]⟩,some ⟨(.int .u64),0,0,[]⟩,none,some ⟨(.aK .func),0,0,[]⟩,some ⟨(.aK .func),0,0,[]⟩,some ⟨(.aK .func),0,0,[]⟩,some ⟨(.aK .func),0,0,[]⟩,some ⟨(.aK .func),0,0,[]⟩,some ⟨(.map .str .bool),9,4,[]⟩,none,some ⟨(.aK .func),0,0,[]⟩,some ⟨(.aK .func),0,0,[]⟩,some ⟨(.aK .func),0,0,[]⟩,some ⟨(.aK .func),0,0,[]⟩,some ⟨(.aK .func),0,0,[]⟩,some ⟨(.aK .func),0,0,[]⟩,some ⟨(.aK .func),0,0,[]⟩,some ⟨(.aK .func),0,0,[]⟩,some ⟨(.aK .func),0,0,[]⟩,some ⟨(.aK .func),0,0,[]⟩,some ⟨(.aK .func),0,0,[]⟩,some ⟨(.aK .func),0,0,[]⟩,some ⟨(.aK .ptr),0,0,[]⟩,some ⟨(.aK .func),0,0,[]⟩,some ⟨(.aK .func),0,0,[]⟩,some ⟨(.aK .ptr),0,0,[]⟩,some ⟨(.aK .func),0,0,[]⟩,some ⟨(.aK .ptr),0,0,[]⟩,some ⟨(.aK .func),0,0,[]⟩,some ⟨(.aK .ptr),0,0,[]⟩,some ⟨(.aK .func),0,0,[]⟩,some ⟨(.aK .ptr),0,0,[]⟩,some ⟨(.aK .func),0,0,[]⟩,some ⟨(.aK .func),0,0,[]⟩,some ⟨(.aK .func),0,0,[]⟩,some ⟨(.aK .ptr),0,0,[]⟩,some ⟨(.aK .func),0,0,[]⟩,some ⟨(.aK .ptr),0,0,[]⟩,some ⟨(.aK .func),0,0,[]⟩,some ⟨(.aK .func),0,0,[]⟩,some ⟨(.slice 72 xS),96,0,[]⟩,some ⟨(.slice 56 cY),243,0,[]⟩,some ⟨(.aK .func),0,0,[]⟩,some ⟨(.aK .func),0,0,[]⟩,some ⟨(.aK .func),0,0,[]⟩,some ⟨(.aK .func),0,0,[]⟩,some ⟨(.int .u64),0,0,[]⟩,some ⟨(.aK .iface),0,0,[]⟩,some ⟨(.aK .iface),0,0,[]⟩,some ⟨(.aK .func),0,0,[]⟩,some ⟨(.aK .func),0,0,[]⟩,some ⟨(.aK .func),0,0,[]⟩,some ⟨(.aK .func),0,0,[]⟩,some ⟨(.aK .func),0,0,[]⟩,some ⟨(.aK .func),0,0,[]⟩,some ⟨(.int .i64),0,0,[]⟩,none,some ⟨(.aK .func),0,0,[]⟩,some ⟨(.aK .func),0,0,[]⟩,some ⟨(.aK .func),0,0,[]⟩,some ⟨(.aK .func),0,0,[]⟩,some ⟨(.aK .func),0,0,[]⟩,some ⟨(.int .u32),0,0,[]⟩,some ⟨(.aK .func),0,0,[]⟩,some ⟨(.int .u64),0,0,[]⟩,some ⟨(.aK .func),0,0,[]⟩,some ⟨(.aK .func),0,0,[]⟩,some ⟨(.int .u64),0,0,[]⟩,some ⟨(.aK .func),0,0,[]⟩,some ⟨(.aK .func),0,0,[]⟩,some ⟨(.aK .func),0,0,[]⟩,some ⟨(.aK .ptr),0,0,[]⟩,some ⟨(.aK .func),0,0,[]⟩,none,some ⟨(.aK .func),0,0,[]⟩,some ⟨(.aK .func),0,0,[]⟩,some ⟨(.aK .func),0,0,[]⟩,some ⟨(.aK .ptr),0,0,[]⟩,none,some ⟨(.aK .func),0,0,[]⟩,some ⟨(.aK .func),0,0,[]⟩,some ⟨(.aK .map),3,44,[]⟩,none,some ⟨(.aK .func),0,0,[]⟩,some ⟨IM,0,0,[]⟩,some ⟨IM,0,0,[]⟩,none,none,none,some ⟨(.int .u8),0,0,[]⟩,some ⟨(.int .u8),0,0,[]⟩,some ⟨(.aK .func),0,0,[]⟩,some ⟨(.aK .ptr),0,0,[]⟩,some ⟨(.int .i32),0,0,[]⟩,some ⟨(.int .i32),0,0,[]⟩,some ⟨IN,0,0,[]⟩,some ⟨IN,0,0,[]⟩,none]
def gl:Ctx:=Ctx.of []
theorem tied:aN Tryz.prog G:=aN.mk' (by kernel_rfl) (by kernel_rfl)
end Go.Proofs.YtadeibjelmcdgaaGreat
