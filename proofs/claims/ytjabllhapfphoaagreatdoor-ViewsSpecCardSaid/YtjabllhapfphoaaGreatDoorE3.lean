/- Made by program (dec.py): walks -/
import Derived.Test.YtjabllhapfphoaaGreatDoorE2
namespace Go.Proofs.YtjabllhapfphoaaGreatDoor
open Go.Abs
def f33(a0:l3)(a1:l3):Option Bool:=
 Option.bind (if(decide (a0.1=a1.1))=true then(if(decide (a0.2.1=a1.2.1))=true then(if(decide (a0.2.2.1=a1.2.2.1))=true then(if(decide (a0.2.2.2.1=a1.2.2.2.1))=true then(if(av ao a0.2.2.2.2.1 a1.2.2.2.2.1)=true then(Option.bind (f65 a0.2.2.2.2.2.1 a1.2.2.2.2.2.1) fun y7=>if y7=true then(Option.bind (f65 a0.2.2.2.2.2.2.1 a1.2.2.2.2.2.2.1) fun y10=>if y10=true then(if(decide (a0.2.2.2.2.2.2.2.1=a1.2.2.2.2.2.2.2.1))=true then(if(av ao a0.2.2.2.2.2.2.2.2.1 a1.2.2.2.2.2.2.2.2.1)=true then(Option.bind (qe a0.2.2.2.2.2.2.2.2.2.1 a1.2.2.2.2.2.2.2.2.2.1) fun y15=>some y15) else(some false)) else(some false)) else(some false)) else(some false)) else(some false)) else(some false)) else(some false)) else(some false)) else(some false)) fun(o1:Bool)=>some o1
set_option maxRecDepth 100000 in
theorem Lf(a0:l3)(a1:l3)(r:Bool)(h:f33 a0 a1=some r):Fc Tryz.prog gl 33 [(.val a8 a0),(.val a8 a1)] (aj (List.replicate 113 none) []) (.ret (.val .bool r)) (aq 113 []):=by
 refine Fc.of Tryz.call33 (bz.aD tied Tryz.func33 rfl rfl (σ0:=ar 73 113 [(0,(.val a8 a0)),(1,(.val a8 a1))] []) (by kernel_rfl) ?_)
 unfold f33 at h
 refine aa.af tied [] [] [] [] (by kernel_rfl) trivial ?_
 obtain⟨o1,h1,h⟩:=bind_some h
 refine aa.ba (fun σ'=>σ'=ar 73 113 [(4,(.val .bool o1))] []) ?_ ?_
 ·rcases ae h1 with⟨hg2,h1⟩|⟨hg2,h1⟩
  ·rcases ae h1 with⟨hg3,h1⟩|⟨hg3,h1⟩
   ·rcases ae h1 with⟨hg4,h1⟩|⟨hg4,h1⟩
    ·rcases ae h1 with⟨hg5,h1⟩|⟨hg5,h1⟩
     ·rcases ae h1 with⟨hg6,h1⟩|⟨hg6,h1⟩
      ·obtain⟨y7,hy8,h1⟩:=bind_some h1
       rcases ae h1 with⟨hg9,h1⟩|⟨hg9,h1⟩
       ·obtain⟨y10,hy11,h1⟩:=bind_some h1
        rcases ae h1 with⟨hg12,h1⟩|⟨hg12,h1⟩
        ·rcases ae h1 with⟨hg13,h1⟩|⟨hg13,h1⟩
         ·rcases ae h1 with⟨hg14,h1⟩|⟨hg14,h1⟩
          ·obtain⟨y15,hy16,h1⟩:=bind_some h1
           refine aa.br tied [⟨(.val .bool y7),[],[],[],66⟩,⟨(.val .bool y10),[],[],[],66⟩,⟨(.val .bool y15),[],[],[],72⟩] [true,true,true,true,true,true,true,true,true] [] [(decide (a0.1=a1.1))=true,(decide (a0.2.1=a1.2.1))=true,(decide (a0.2.2.1=a1.2.2.1))=true,(decide (a0.2.2.2.1=a1.2.2.2.1))=true,bG Tryz.prog G 40 28 ao=true,Tryz.prog.eqGuardType Tryz.prog.depth 28=false,(av ao a0.2.2.2.2.1 a1.2.2.2.2.1)=true,Fc Tryz.prog gl 65 [(.val (.slice 8 (.int .i64)) a0.2.2.2.2.2.1),(.val (.slice 8 (.int .i64)) a1.2.2.2.2.2.1)] (aj (List.replicate 66 none) []) (.ret (.val .bool y7)) (aq 66 []),y7=true,Fc Tryz.prog gl 65 [(.val (.slice 8 (.int .i64)) a0.2.2.2.2.2.2.1),(.val (.slice 8 (.int .i64)) a1.2.2.2.2.2.2.1)] (aj (List.replicate 66 none) []) (.ret (.val .bool y10)) (aq 66 []),y10=true,(decide (a0.2.2.2.2.2.2.2.1=a1.2.2.2.2.2.2.2.1))=true,bG Tryz.prog G 40 28 ao=true,Tryz.prog.eqGuardType Tryz.prog.depth 28=false,(av ao a0.2.2.2.2.2.2.2.2.1 a1.2.2.2.2.2.2.2.2.1)=true,Fc Tryz.prog gl 66 [(.val (.slice 56 fw) a0.2.2.2.2.2.2.2.2.2.1),(.val (.slice 56 fw) a1.2.2.2.2.2.2.2.2.2.1),(.func (.func 67) .nil .nil)] (aj (List.replicate 72 none) []) (.ret (.val .bool y15)) (aq 72 [])] (by kernel_rfl) ⟨hg2,hg3,hg4,hg5,bn,bx,hg6,DL _ _ _ hy8,hg9,DL _ _ _ hy11,hg12,hg13,bn,bx,hg14,F4 _ _ _ hy16,trivial⟩ ?_
           obtain rfl:=Option.some.inj h1
           exact jQ.mk [.an [4] []] (by kernel_rfl) rfl
          ·refine aa.br tied [⟨(.val .bool y7),[],[],[],66⟩,⟨(.val .bool y10),[],[],[],66⟩] [true,true,true,true,true,true,true,true,false] [] [(decide (a0.1=a1.1))=true,(decide (a0.2.1=a1.2.1))=true,(decide (a0.2.2.1=a1.2.2.1))=true,(decide (a0.2.2.2.1=a1.2.2.2.1))=true,bG Tryz.prog G 40 28 ao=true,Tryz.prog.eqGuardType Tryz.prog.depth 28=false,(av ao a0.2.2.2.2.1 a1.2.2.2.2.1)=true,Fc Tryz.prog gl 65 [(.val (.slice 8 (.int .i64)) a0.2.2.2.2.2.1),(.val (.slice 8 (.int .i64)) a1.2.2.2.2.2.1)] (aj (List.replicate 66 none) []) (.ret (.val .bool y7)) (aq 66 []),y7=true,Fc Tryz.prog gl 65 [(.val (.slice 8 (.int .i64)) a0.2.2.2.2.2.2.1),(.val (.slice 8 (.int .i64)) a1.2.2.2.2.2.2.1)] (aj (List.replicate 66 none) []) (.ret (.val .bool y10)) (aq 66 []),y10=true,(decide (a0.2.2.2.2.2.2.2.1=a1.2.2.2.2.2.2.2.1))=true,bG Tryz.prog G 40 28 ao=true,Tryz.prog.eqGuardType Tryz.prog.depth 28=false,(av ao a0.2.2.2.2.2.2.2.2.1 a1.2.2.2.2.2.2.2.2.1)=false] (by kernel_rfl) ⟨hg2,hg3,hg4,hg5,bn,bx,hg6,DL _ _ _ hy8,hg9,DL _ _ _ hy11,hg12,hg13,bn,bx,hg14,trivial⟩ ?_
           obtain rfl:=Option.some.inj h1
           exact jQ.mk [.an [4] []] (by kernel_rfl) rfl
         ·refine aa.br tied [⟨(.val .bool y7),[],[],[],66⟩,⟨(.val .bool y10),[],[],[],66⟩] [true,true,true,true,true,true,true,false,false] [] [(decide (a0.1=a1.1))=true,(decide (a0.2.1=a1.2.1))=true,(decide (a0.2.2.1=a1.2.2.1))=true,(decide (a0.2.2.2.1=a1.2.2.2.1))=true,bG Tryz.prog G 40 28 ao=true,Tryz.prog.eqGuardType Tryz.prog.depth 28=false,(av ao a0.2.2.2.2.1 a1.2.2.2.2.1)=true,Fc Tryz.prog gl 65 [(.val (.slice 8 (.int .i64)) a0.2.2.2.2.2.1),(.val (.slice 8 (.int .i64)) a1.2.2.2.2.2.1)] (aj (List.replicate 66 none) []) (.ret (.val .bool y7)) (aq 66 []),y7=true,Fc Tryz.prog gl 65 [(.val (.slice 8 (.int .i64)) a0.2.2.2.2.2.2.1),(.val (.slice 8 (.int .i64)) a1.2.2.2.2.2.2.1)] (aj (List.replicate 66 none) []) (.ret (.val .bool y10)) (aq 66 []),y10=true,(decide (a0.2.2.2.2.2.2.2.1=a1.2.2.2.2.2.2.2.1))=false,false=false] (by kernel_rfl) ⟨hg2,hg3,hg4,hg5,bn,bx,hg6,DL _ _ _ hy8,hg9,DL _ _ _ hy11,hg12,hg13,rfl,trivial⟩ ?_
          obtain rfl:=Option.some.inj h1
          exact jQ.mk [.an [4] []] (by kernel_rfl) rfl
        ·refine aa.br tied [⟨(.val .bool y7),[],[],[],66⟩,⟨(.val .bool y10),[],[],[],66⟩] [true,true,true,true,true,true,false,false,false] [] [(decide (a0.1=a1.1))=true,(decide (a0.2.1=a1.2.1))=true,(decide (a0.2.2.1=a1.2.2.1))=true,(decide (a0.2.2.2.1=a1.2.2.2.1))=true,bG Tryz.prog G 40 28 ao=true,Tryz.prog.eqGuardType Tryz.prog.depth 28=false,(av ao a0.2.2.2.2.1 a1.2.2.2.2.1)=true,Fc Tryz.prog gl 65 [(.val (.slice 8 (.int .i64)) a0.2.2.2.2.2.1),(.val (.slice 8 (.int .i64)) a1.2.2.2.2.2.1)] (aj (List.replicate 66 none) []) (.ret (.val .bool y7)) (aq 66 []),y7=true,Fc Tryz.prog gl 65 [(.val (.slice 8 (.int .i64)) a0.2.2.2.2.2.2.1),(.val (.slice 8 (.int .i64)) a1.2.2.2.2.2.2.1)] (aj (List.replicate 66 none) []) (.ret (.val .bool y10)) (aq 66 []),y10=false,false=false,false=false] (by kernel_rfl) ⟨hg2,hg3,hg4,hg5,bn,bx,hg6,DL _ _ _ hy8,hg9,DL _ _ _ hy11,hg12,rfl,rfl,trivial⟩ ?_
         obtain rfl:=Option.some.inj h1
         exact jQ.mk [.an [4] []] (by kernel_rfl) rfl
       ·refine aa.br tied [⟨(.val .bool y7),[],[],[],66⟩] [true,true,true,true,true,false,false,false,false] [] [(decide (a0.1=a1.1))=true,(decide (a0.2.1=a1.2.1))=true,(decide (a0.2.2.1=a1.2.2.1))=true,(decide (a0.2.2.2.1=a1.2.2.2.1))=true,bG Tryz.prog G 40 28 ao=true,Tryz.prog.eqGuardType Tryz.prog.depth 28=false,(av ao a0.2.2.2.2.1 a1.2.2.2.2.1)=true,Fc Tryz.prog gl 65 [(.val (.slice 8 (.int .i64)) a0.2.2.2.2.2.1),(.val (.slice 8 (.int .i64)) a1.2.2.2.2.2.1)] (aj (List.replicate 66 none) []) (.ret (.val .bool y7)) (aq 66 []),y7=false,false=false,false=false,false=false] (by kernel_rfl) ⟨hg2,hg3,hg4,hg5,bn,bx,hg6,DL _ _ _ hy8,hg9,rfl,rfl,rfl,trivial⟩ ?_
        obtain rfl:=Option.some.inj h1
        exact jQ.mk [.an [4] []] (by kernel_rfl) rfl
      ·refine aa.br tied [] [true,true,true,true,false,false,false,false,false] [] [(decide (a0.1=a1.1))=true,(decide (a0.2.1=a1.2.1))=true,(decide (a0.2.2.1=a1.2.2.1))=true,(decide (a0.2.2.2.1=a1.2.2.2.1))=true,bG Tryz.prog G 40 28 ao=true,Tryz.prog.eqGuardType Tryz.prog.depth 28=false,(av ao a0.2.2.2.2.1 a1.2.2.2.2.1)=false,false=false,false=false,false=false,false=false] (by kernel_rfl) ⟨hg2,hg3,hg4,hg5,bn,bx,hg6,rfl,rfl,rfl,rfl,trivial⟩ ?_
       obtain rfl:=Option.some.inj h1
       exact jQ.mk [.an [4] []] (by kernel_rfl) rfl
     ·refine aa.br tied [] [true,true,true,false,false,false,false,false,false] [] [(decide (a0.1=a1.1))=true,(decide (a0.2.1=a1.2.1))=true,(decide (a0.2.2.1=a1.2.2.1))=true,(decide (a0.2.2.2.1=a1.2.2.2.1))=false,false=false,false=false,false=false,false=false,false=false] (by kernel_rfl) ⟨hg2,hg3,hg4,hg5,rfl,rfl,rfl,rfl,rfl,trivial⟩ ?_
      obtain rfl:=Option.some.inj h1
      exact jQ.mk [.an [4] []] (by kernel_rfl) rfl
    ·refine aa.br tied [] [true,true,false,false,false,false,false,false,false] [] [(decide (a0.1=a1.1))=true,(decide (a0.2.1=a1.2.1))=true,(decide (a0.2.2.1=a1.2.2.1))=false,false=false,false=false,false=false,false=false,false=false,false=false] (by kernel_rfl) ⟨hg2,hg3,hg4,rfl,rfl,rfl,rfl,rfl,rfl,trivial⟩ ?_
     obtain rfl:=Option.some.inj h1
     exact jQ.mk [.an [4] []] (by kernel_rfl) rfl
   ·refine aa.br tied [] [true,false,false,false,false,false,false,false,false] [] [(decide (a0.1=a1.1))=true,(decide (a0.2.1=a1.2.1))=false,false=false,false=false,false=false,false=false,false=false,false=false,false=false] (by kernel_rfl) ⟨hg2,hg3,rfl,rfl,rfl,rfl,rfl,rfl,rfl,trivial⟩ ?_
    obtain rfl:=Option.some.inj h1
    exact jQ.mk [.an [4] []] (by kernel_rfl) rfl
  ·refine aa.br tied [] [false,false,false,false,false,false,false,false,false] [] [(decide (a0.1=a1.1))=false,false=false,false=false,false=false,false=false,false=false,false=false,false=false,false=false] (by kernel_rfl) ⟨hg2,rfl,rfl,rfl,rfl,rfl,rfl,rfl,rfl,trivial⟩ ?_
   obtain rfl:=Option.some.inj h1
   exact jQ.mk [.an [4] []] (by kernel_rfl) rfl
 ·rintro _ rfl
  refine aa.ret ?_
  obtain rfl:=Option.some.inj h
  exact(au [] [some .bool] (cq 113 []) (by kernel_rfl)).1
def eU(a0:List l3)(a1:List l3):Nat→Int→Option (c6 Unit Bool)
 |0,_=>none
 |n1+1,u1_0=>if(decide (u1_0<(List.length a0:Int)))=true then(if 0≤u1_0∧u1_0<(List.length a0:Int) then(if u1_0<(List.length a1:Int) then(Option.bind (f33 (nth a8 a0 u1_0) (nth a8 a1 u1_0)) fun y4=>if(!y4)=true then(some (.ret false)) else(eU a0 a1 n1 (aP (u1_0+(1:Int))))) else none) else none) else(some (.bh ()))
def qc(a0:List l3)(a1:List l3):Option Bool:=
 if(!decide ((List.length a0:Int)=(List.length a1:Int)))=true then(some false) else(Option.bind (eU a0 a1 (List.length a0+1) (0:Int)) fun(o1:c6 Unit Bool)=>match o1 with| .bh _v8=>(some true)| .ret r9=>(some r9))
set_option maxRecDepth 100000 in
theorem Bt(a0:List l3)(a1:List l3)(r:Bool)(h:qc a0 a1=some r):Fc Tryz.prog gl 32 [(.val (.slice 176 a8) a0),(.val (.slice 176 a8) a1),(.func (.func 33) .nil .nil)] (aj (List.replicate 72 none) []) (.ret (.val .bool r)) (aq 72 []):=by
 refine Fc.of Tryz.call32 (bz.aD tied Tryz.func32 rfl rfl (σ0:=ar 32 72 [(0,(.val (.slice 176 a8) a0)),(1,(.val (.slice 176 a8) a1)),(2,(.func (.func 33) .nil .nil))] []) (by kernel_rfl) ?_)
 unfold qc at h
 refine aa.af tied [] [] [] [] (by kernel_rfl) trivial ?_
 refine aa.seq ?_
 refine aa.af tied [] [] [] [] (by kernel_rfl) trivial ?_
 rcases ae h with⟨hc10,h⟩|⟨hc10,h⟩
 ·refine aa.aE (b:= !decide ((List.length a0:Int)=(List.length a1:Int))) (by kernel_rfl) hc10 ?_
  refine aa.af tied [] [] [] [] (by kernel_rfl) trivial ?_
  refine aa.ret ?_
  obtain rfl:=Option.some.inj h
  exact(au [] [some .bool] (cq 72 []) (by kernel_rfl)).1
 ·refine aa.aF (b:= !decide ((List.length a0:Int)=(List.length a1:Int))) (by kernel_rfl) hc10 ?_
  refine aa.skip ?_
  change aa _ _ _ _ _
  obtain⟨o1,h1,h⟩:=bind_some h
  refine aa.ba (fun σ'=>∃v8,o1= .bh v8∧σ'=ar 32 72 [] []) ?_ ?_
  ·refine aa.af tied [] [] [] [] (by kernel_rfl) trivial ?_
   refine aa.block ?_
   refine aa.aB (fun n σ=>∃(u1_0:Int),eU a0 a1 n u1_0=some o1∧σ=ar 32 72 [(1,(.val (.slice 176 a8) a1)),(2,(.func (.func 33) .nil .nil)),(15,(.val (.slice 176 a8) a0)),(16,(.val (.int .i64) (List.length a0:Int))),(17,(.val (.int .i64) u1_0))] []) [.an [1,2,15,16,17] []] (by kernel_rfl) ⟨_,h1,rfl⟩ ?_
   rintro n1 _ ⟨u1_0,h3,rfl⟩
   cases n1 with
   |zero=>exact absurd h3 (by simp[eU])
   |
    succ n1=>
    unfold eU at h3
    refine aa.af tied [] [] [] [] (by kernel_rfl) trivial ?_
    refine aa.seq ?_
    rcases ae h3 with⟨hc7,h3⟩|⟨hc7,h3⟩
    ·refine aa.aE (b:=decide (u1_0<(List.length a0:Int))) (by kernel_rfl) hc7 ?_
     refine aa.skip ?_
     change aa _ _ _ _ _
     refine aa.seq ?_
     refine aa.block ?_
     obtain⟨hv2,h3⟩:=ah h3
     refine aa.af tied [] [] [] [0≤u1_0,u1_0<(List.length a0:Int)] (by kernel_rfl) ⟨hv2.1,hv2.2,trivial⟩ ?_
     obtain⟨hv3,h3⟩:=ah h3
     refine aa.af tied [] [] [] [0≤u1_0,u1_0<(List.length a1:Int)] (by kernel_rfl) ⟨hv2.1,hv3,trivial⟩ ?_
     obtain⟨y4,hy5,h3⟩:=bind_some h3
     refine aa.af tied [⟨(.val .bool y4),[],[],[],113⟩] [] [] [Fc Tryz.prog gl 33 [(.val a8 (nth a8 a0 u1_0)),(.val a8 (nth a8 a1 u1_0))] (aj (List.replicate 113 none) []) (.ret (.val .bool y4)) (aq 113 [])] (by kernel_rfl) ⟨Lf _ _ _ hy5,trivial⟩ ?_
     rcases ae h3 with⟨hc6,h3⟩|⟨hc6,h3⟩
     ·refine aa.aE (b:= !y4) (by kernel_rfl) hc6 ?_
      refine aa.af tied [] [] [] [] (by kernel_rfl) trivial ?_
      refine aa.ret ?_
      obtain rfl:=Option.some.inj h3
      dsimp only at h
      obtain rfl:=Option.some.inj h
      exact(au [] [some .bool] (cq 72 []) (by kernel_rfl)).1
     ·refine aa.aF (b:= !y4) (by kernel_rfl) hc6 ?_
      refine aa.skip ?_
      refine bN ?_
      change aa _ _ _ _ _
      refine aa.br tied [] [] [] [] (by kernel_rfl) trivial ?_
      exact aB.mk [.an [1,2,15,16,17] []] (by kernel_rfl) ⟨_,h3,rfl⟩
    ·refine aa.aF (b:=decide (u1_0<(List.length a0:Int))) (by kernel_rfl) hc7 ?_
     refine aa.exit ?_
     refine tE ?_
     refine lE ?_
     refine bE ?_
     obtain rfl:=Option.some.inj h3
     exact jQ.mk [.an [] []] (by kernel_rfl) ⟨_,rfl,rfl⟩
  ·rintro _ ⟨v8,rfl,rfl⟩
   dsimp only at h
   refine aa.af tied [] [] [] [] (by kernel_rfl) trivial ?_
   refine aa.ret ?_
   obtain rfl:=Option.some.inj h
   exact(au [] [some .bool] (cq 72 []) (by kernel_rfl)).1
def f35(a0:List aU)(a1:List aU):Option Bool:=
 Option.bind (f36 a0 a1) fun y1=>some y1
set_option maxRecDepth 100000 in
theorem Lg(a0:List aU)(a1:List aU)(r:Bool)(h:f35 a0 a1=some r):Fc Tryz.prog gl 35 [(.val (.slice 32 ao) a0),(.val (.slice 32 ao) a1)] (aj (List.replicate 48 none) []) (.ret (.val .bool r)) (aq 48 []):=by
 refine Fc.of Tryz.call35 (bz.aD tied Tryz.func35 rfl rfl (σ0:=ar 8 48 [(0,(.val (.slice 32 ao) a0)),(1,(.val (.slice 32 ao) a1))] []) (by kernel_rfl) ?_)
 unfold f35 at h
 refine aa.af tied [] [] [] [] (by kernel_rfl) trivial ?_
 obtain⟨y1,hy2,h⟩:=bind_some h
 refine aa.af tied [⟨(.val .bool y1),[],[],[],66⟩] [] [] [Fc Tryz.prog gl 36 [(.val (.slice 32 ao) a0),(.val (.slice 32 ao) a1)] (aj (List.replicate 66 none) []) (.ret (.val .bool y1)) (aq 66 [])] (by kernel_rfl) ⟨IP _ _ _ hy2,trivial⟩ ?_
 refine aa.ret ?_
 obtain rfl:=Option.some.inj h
 exact(au [] [some .bool] (cq 48 []) (by kernel_rfl)).1
def eV(a0:List (List aU))(a1:List (List aU)):Nat→Int→Option (c6 Unit Bool)
 |0,_=>none
 |n1+1,u1_0=>if(decide (u1_0<(List.length a0:Int)))=true then(if 0≤u1_0∧u1_0<(List.length a0:Int) then(if u1_0<(List.length a1:Int) then(Option.bind (f35 (nth (.slice 32 ao) a0 u1_0) (nth (.slice 32 ao) a1 u1_0)) fun y4=>if(!y4)=true then(some (.ret false)) else(eV a0 a1 n1 (aP (u1_0+(1:Int))))) else none) else none) else(some (.bh ()))
def qd(a0:List (List aU))(a1:List (List aU)):Option Bool:=
 if(!decide ((List.length a0:Int)=(List.length a1:Int)))=true then(some false) else(Option.bind (eV a0 a1 (List.length a0+1) (0:Int)) fun(o1:c6 Unit Bool)=>match o1 with| .bh _v8=>(some true)| .ret r9=>(some r9))
set_option maxRecDepth 100000 in
theorem F3(a0:List (List aU))(a1:List (List aU))(r:Bool)(h:qd a0 a1=some r):Fc Tryz.prog gl 34 [(.val (.slice 24 (.slice 32 ao)) a0),(.val (.slice 24 (.slice 32 ao)) a1),(.func (.func 35) .nil .nil)] (aj (List.replicate 72 none) []) (.ret (.val .bool r)) (aq 72 []):=by
 refine Fc.of Tryz.call34 (bz.aD tied Tryz.func34 rfl rfl (σ0:=ar 32 72 [(0,(.val (.slice 24 (.slice 32 ao)) a0)),(1,(.val (.slice 24 (.slice 32 ao)) a1)),(2,(.func (.func 35) .nil .nil))] []) (by kernel_rfl) ?_)
 unfold qd at h
 refine aa.af tied [] [] [] [] (by kernel_rfl) trivial ?_
 refine aa.seq ?_
 refine aa.af tied [] [] [] [] (by kernel_rfl) trivial ?_
 rcases ae h with⟨hc10,h⟩|⟨hc10,h⟩
 ·refine aa.aE (b:= !decide ((List.length a0:Int)=(List.length a1:Int))) (by kernel_rfl) hc10 ?_
  refine aa.af tied [] [] [] [] (by kernel_rfl) trivial ?_
  refine aa.ret ?_
  obtain rfl:=Option.some.inj h
  exact(au [] [some .bool] (cq 72 []) (by kernel_rfl)).1
 ·refine aa.aF (b:= !decide ((List.length a0:Int)=(List.length a1:Int))) (by kernel_rfl) hc10 ?_
  refine aa.skip ?_
  change aa _ _ _ _ _
  obtain⟨o1,h1,h⟩:=bind_some h
  refine aa.ba (fun σ'=>∃v8,o1= .bh v8∧σ'=ar 32 72 [] []) ?_ ?_
  ·refine aa.af tied [] [] [] [] (by kernel_rfl) trivial ?_
   refine aa.block ?_
   refine aa.aB (fun n σ=>∃(u1_0:Int),eV a0 a1 n u1_0=some o1∧σ=ar 32 72 [(1,(.val (.slice 24 (.slice 32 ao)) a1)),(2,(.func (.func 35) .nil .nil)),(15,(.val (.slice 24 (.slice 32 ao)) a0)),(16,(.val (.int .i64) (List.length a0:Int))),(17,(.val (.int .i64) u1_0))] []) [.an [1,2,15,16,17] []] (by kernel_rfl) ⟨_,h1,rfl⟩ ?_
   rintro n1 _ ⟨u1_0,h3,rfl⟩
   cases n1 with
   |zero=>exact absurd h3 (by simp[eV])
   |
    succ n1=>
    unfold eV at h3
    refine aa.af tied [] [] [] [] (by kernel_rfl) trivial ?_
    refine aa.seq ?_
    rcases ae h3 with⟨hc7,h3⟩|⟨hc7,h3⟩
    ·refine aa.aE (b:=decide (u1_0<(List.length a0:Int))) (by kernel_rfl) hc7 ?_
     refine aa.skip ?_
     change aa _ _ _ _ _
     refine aa.seq ?_
     refine aa.block ?_
     obtain⟨hv2,h3⟩:=ah h3
     refine aa.af tied [] [] [] [0≤u1_0,u1_0<(List.length a0:Int)] (by kernel_rfl) ⟨hv2.1,hv2.2,trivial⟩ ?_
     obtain⟨hv3,h3⟩:=ah h3
     refine aa.af tied [] [] [] [0≤u1_0,u1_0<(List.length a1:Int)] (by kernel_rfl) ⟨hv2.1,hv3,trivial⟩ ?_
     obtain⟨y4,hy5,h3⟩:=bind_some h3
     refine aa.af tied [⟨(.val .bool y4),[],[],[],48⟩] [] [] [Fc Tryz.prog gl 35 [(.val (.slice 32 ao) (nth (.slice 32 ao) a0 u1_0)),(.val (.slice 32 ao) (nth (.slice 32 ao) a1 u1_0))] (aj (List.replicate 48 none) []) (.ret (.val .bool y4)) (aq 48 [])] (by kernel_rfl) ⟨Lg _ _ _ hy5,trivial⟩ ?_
     rcases ae h3 with⟨hc6,h3⟩|⟨hc6,h3⟩
     ·refine aa.aE (b:= !y4) (by kernel_rfl) hc6 ?_
      refine aa.af tied [] [] [] [] (by kernel_rfl) trivial ?_
      refine aa.ret ?_
      obtain rfl:=Option.some.inj h3
      dsimp only at h
      obtain rfl:=Option.some.inj h
      exact(au [] [some .bool] (cq 72 []) (by kernel_rfl)).1
     ·refine aa.aF (b:= !y4) (by kernel_rfl) hc6 ?_
      refine aa.skip ?_
      refine bN ?_
      change aa _ _ _ _ _
      refine aa.br tied [] [] [] [] (by kernel_rfl) trivial ?_
      exact aB.mk [.an [1,2,15,16,17] []] (by kernel_rfl) ⟨_,h3,rfl⟩
    ·refine aa.aF (b:=decide (u1_0<(List.length a0:Int))) (by kernel_rfl) hc7 ?_
     refine aa.exit ?_
     refine tE ?_
     refine lE ?_
     refine bE ?_
     obtain rfl:=Option.some.inj h3
     exact jQ.mk [.an [] []] (by kernel_rfl) ⟨_,rfl,rfl⟩
  ·rintro _ ⟨v8,rfl,rfl⟩
   dsimp only at h
   refine aa.af tied [] [] [] [] (by kernel_rfl) trivial ?_
   refine aa.ret ?_
   obtain rfl:=Option.some.inj h
   exact(au [] [some .bool] (cq 72 []) (by kernel_rfl)).1
def f13(a0:cI)(a1:cI):Option Bool:=
 Option.bind (if(decide (a0.1=a1.1))=true then(if(decide (a0.2.1=a1.2.1))=true then(if(av ao a0.2.2.1 a1.2.2.1)=true then(if(av ao a0.2.2.2.1 a1.2.2.2.1)=true then(Option.bind (qc a0.2.2.2.2.1 a1.2.2.2.2.1) fun y6=>if y6=true then(Option.bind (qd a0.2.2.2.2.2.1 a1.2.2.2.2.2.1) fun y9=>some y9) else(some false)) else(some false)) else(some false)) else(some false)) else(some false)) fun(o1:Bool)=>some o1
set_option maxRecDepth 100000 in
theorem rA(a0:cI)(a1:cI)(r:Bool)(h:f13 a0 a1=some r):Fc Tryz.prog gl 13 [(.val aI a0),(.val aI a1)] (aj (List.replicate 85 none) []) (.ret (.val .bool r)) (aq 85 []):=by
 refine Fc.of Tryz.call13 (bz.aD tied Tryz.func13 rfl rfl (σ0:=ar 45 85 [(0,(.val aI a0)),(1,(.val aI a1))] []) (by kernel_rfl) ?_)
 unfold f13 at h
 refine aa.af tied [] [] [] [] (by kernel_rfl) trivial ?_
 obtain⟨o1,h1,h⟩:=bind_some h
 refine aa.ba (fun σ'=>σ'=ar 45 85 [(4,(.val .bool o1))] []) ?_ ?_
 ·rcases ae h1 with⟨hg2,h1⟩|⟨hg2,h1⟩
  ·rcases ae h1 with⟨hg3,h1⟩|⟨hg3,h1⟩
   ·rcases ae h1 with⟨hg4,h1⟩|⟨hg4,h1⟩
    ·rcases ae h1 with⟨hg5,h1⟩|⟨hg5,h1⟩
     ·obtain⟨y6,hy7,h1⟩:=bind_some h1
      rcases ae h1 with⟨hg8,h1⟩|⟨hg8,h1⟩
      ·obtain⟨y9,hy10,h1⟩:=bind_some h1
       refine aa.br tied [⟨(.val .bool y6),[],[],[],72⟩,⟨(.val .bool y9),[],[],[],72⟩] [true,true,true,true,true] [] [(decide (a0.1=a1.1))=true,(decide (a0.2.1=a1.2.1))=true,bG Tryz.prog G 40 28 ao=true,Tryz.prog.eqGuardType Tryz.prog.depth 28=false,(av ao a0.2.2.1 a1.2.2.1)=true,bG Tryz.prog G 40 28 ao=true,Tryz.prog.eqGuardType Tryz.prog.depth 28=false,(av ao a0.2.2.2.1 a1.2.2.2.1)=true,Fc Tryz.prog gl 32 [(.val (.slice 176 a8) a0.2.2.2.2.1),(.val (.slice 176 a8) a1.2.2.2.2.1),(.func (.func 33) .nil .nil)] (aj (List.replicate 72 none) []) (.ret (.val .bool y6)) (aq 72 []),y6=true,Fc Tryz.prog gl 34 [(.val (.slice 24 (.slice 32 ao)) a0.2.2.2.2.2.1),(.val (.slice 24 (.slice 32 ao)) a1.2.2.2.2.2.1),(.func (.func 35) .nil .nil)] (aj (List.replicate 72 none) []) (.ret (.val .bool y9)) (aq 72 [])] (by kernel_rfl) ⟨hg2,hg3,bn,bx,hg4,bn,bx,hg5,Bt _ _ _ hy7,hg8,F3 _ _ _ hy10,trivial⟩ ?_
       obtain rfl:=Option.some.inj h1
       exact jQ.mk [.an [4] []] (by kernel_rfl) rfl
      ·refine aa.br tied [⟨(.val .bool y6),[],[],[],72⟩] [true,true,true,true,false] [] [(decide (a0.1=a1.1))=true,(decide (a0.2.1=a1.2.1))=true,bG Tryz.prog G 40 28 ao=true,Tryz.prog.eqGuardType Tryz.prog.depth 28=false,(av ao a0.2.2.1 a1.2.2.1)=true,bG Tryz.prog G 40 28 ao=true,Tryz.prog.eqGuardType Tryz.prog.depth 28=false,(av ao a0.2.2.2.1 a1.2.2.2.1)=true,Fc Tryz.prog gl 32 [(.val (.slice 176 a8) a0.2.2.2.2.1),(.val (.slice 176 a8) a1.2.2.2.2.1),(.func (.func 33) .nil .nil)] (aj (List.replicate 72 none) []) (.ret (.val .bool y6)) (aq 72 []),y6=false] (by kernel_rfl) ⟨hg2,hg3,bn,bx,hg4,bn,bx,hg5,Bt _ _ _ hy7,hg8,trivial⟩ ?_
       obtain rfl:=Option.some.inj h1
       exact jQ.mk [.an [4] []] (by kernel_rfl) rfl
     ·refine aa.br tied [] [true,true,true,false,false] [] [(decide (a0.1=a1.1))=true,(decide (a0.2.1=a1.2.1))=true,bG Tryz.prog G 40 28 ao=true,Tryz.prog.eqGuardType Tryz.prog.depth 28=false,(av ao a0.2.2.1 a1.2.2.1)=true,bG Tryz.prog G 40 28 ao=true,Tryz.prog.eqGuardType Tryz.prog.depth 28=false,(av ao a0.2.2.2.1 a1.2.2.2.1)=false,false=false] (by kernel_rfl) ⟨hg2,hg3,bn,bx,hg4,bn,bx,hg5,rfl,trivial⟩ ?_
      obtain rfl:=Option.some.inj h1
      exact jQ.mk [.an [4] []] (by kernel_rfl) rfl
    ·refine aa.br tied [] [true,true,false,false,false] [] [(decide (a0.1=a1.1))=true,(decide (a0.2.1=a1.2.1))=true,bG Tryz.prog G 40 28 ao=true,Tryz.prog.eqGuardType Tryz.prog.depth 28=false,(av ao a0.2.2.1 a1.2.2.1)=false,false=false,false=false] (by kernel_rfl) ⟨hg2,hg3,bn,bx,hg4,rfl,rfl,trivial⟩ ?_
     obtain rfl:=Option.some.inj h1
     exact jQ.mk [.an [4] []] (by kernel_rfl) rfl
   ·refine aa.br tied [] [true,false,false,false,false] [] [(decide (a0.1=a1.1))=true,(decide (a0.2.1=a1.2.1))=false,false=false,false=false,false=false] (by kernel_rfl) ⟨hg2,hg3,rfl,rfl,rfl,trivial⟩ ?_
    obtain rfl:=Option.some.inj h1
    exact jQ.mk [.an [4] []] (by kernel_rfl) rfl
  ·refine aa.br tied [] [false,false,false,false,false] [] [(decide (a0.1=a1.1))=false,false=false,false=false,false=false,false=false] (by kernel_rfl) ⟨hg2,rfl,rfl,rfl,rfl,trivial⟩ ?_
   obtain rfl:=Option.some.inj h1
   exact jQ.mk [.an [4] []] (by kernel_rfl) rfl
 ·rintro _ rfl
  refine aa.ret ?_
  obtain rfl:=Option.some.inj h
  exact(au [] [some .bool] (cq 85 []) (by kernel_rfl)).1
def iu(a0:List Int)(a1:List Int):Nat→Int→Option (c6 Unit Bool)
 |0,_=>none
 |n1+1,u1_0=>if(decide (u1_0<(List.length a0:Int)))=true then(if 0≤u1_0∧u1_0<(List.length a0:Int) then(if u1_0<(List.length a1:Int) then(if(!decide ((nth (.int .i64) a0 u1_0)=(nth (.int .i64) a1 u1_0)))=true then(some (.ret false)) else(iu a0 a1 n1 (aP (u1_0+(1:Int))))) else none) else none) else(some (.bh ()))
def f130(a0:List Int)(a1:List Int):Option Bool:=
 if(!decide ((List.length a0:Int)=(List.length a1:Int)))=true then(some false) else(Option.bind (iu a0 a1 (bX) (0:Int)) fun(o1:c6 Unit Bool)=>match o1 with| .bh _v6=>(some true)| .ret r7=>(some r7))
set_option maxRecDepth 100000 in
theorem tT(a0:List Int)(a1:List Int)(r:Bool)(h:f130 a0 a1=some r):Fc Tryz.prog gl 130 [(.val (.slice 8 (.int .i64)) a0),(.val (.slice 8 (.int .i64)) a1)] (aj (List.replicate 66 none) []) (.ret (.val .bool r)) (aq 66 []):=by
 refine Fc.of Tryz.call130 (bz.aD tied Tryz.func130 rfl rfl (σ0:=ar 26 66 [(0,(.val (.slice 8 (.int .i64)) a0)),(1,(.val (.slice 8 (.int .i64)) a1))] []) (by kernel_rfl) ?_)
 unfold f130 at h
 refine aa.af tied [] [] [] [] (by kernel_rfl) trivial ?_
 refine aa.seq ?_
 refine aa.af tied [] [] [] [] (by kernel_rfl) trivial ?_
 rcases ae h with⟨hc8,h⟩|⟨hc8,h⟩
 ·refine aa.aE (b:= !decide ((List.length a0:Int)=(List.length a1:Int))) (by kernel_rfl) hc8 ?_
  refine aa.af tied [] [] [] [] (by kernel_rfl) trivial ?_
  refine aa.ret ?_
  obtain rfl:=Option.some.inj h
  exact(au [] [some .bool] (cq 66 []) (by kernel_rfl)).1
 ·refine aa.aF (b:= !decide ((List.length a0:Int)=(List.length a1:Int))) (by kernel_rfl) hc8 ?_
  refine aa.skip ?_
  change aa _ _ _ _ _
  obtain⟨o1,h1,h⟩:=bind_some h
  refine aa.ba (fun σ'=>∃v6,o1= .bh v6∧σ'=ar 26 66 [] []) ?_ ?_
  ·refine aa.af tied [] [] [] [] (by kernel_rfl) trivial ?_
   refine aa.block ?_
   refine aa.aB (fun n σ=>∃(u1_0:Int),iu a0 a1 n u1_0=some o1∧σ=ar 26 66 [(0,(.val (.slice 8 (.int .i64)) a0)),(1,(.val (.slice 8 (.int .i64)) a1)),(5,(.val (.int .i64) u1_0))] []) [.an [0,1,5] []] (by kernel_rfl) ⟨_,h1,rfl⟩ ?_
   rintro n1 _ ⟨u1_0,h3,rfl⟩
   cases n1 with
   |zero=>exact absurd h3 (by simp[iu])
   |
    succ n1=>
    unfold iu at h3
    refine aa.seq ?_
    refine aa.af tied [] [] [] [] (by kernel_rfl) trivial ?_
    rcases ae h3 with⟨hc5,h3⟩|⟨hc5,h3⟩
    ·refine aa.aE (b:=decide (u1_0<(List.length a0:Int))) (by kernel_rfl) hc5 ?_
     refine aa.skip ?_
     change aa _ _ _ _ _
     refine aa.seq ?_
     refine aa.block ?_
     obtain⟨hv2,h3⟩:=ah h3
     obtain⟨hv3,h3⟩:=ah h3
     refine aa.gn tied [] [] [] [0≤u1_0,u1_0<(List.length a0:Int),0≤u1_0,u1_0<(List.length a1:Int)] (by kernel_rfl) ⟨hv2.1,hv2.2,hv2.1,hv3,trivial⟩ ?_
     rcases ae h3 with⟨hc4,h3⟩|⟨hc4,h3⟩
     ·refine aa.aE (b:= !decide ((nth (.int .i64) a0 u1_0)=(nth (.int .i64) a1 u1_0))) (by kernel_rfl) hc4 ?_
      refine aa.af tied [] [] [] [] (by kernel_rfl) trivial ?_
      refine aa.ret ?_
      obtain rfl:=Option.some.inj h3
      dsimp only at h
      obtain rfl:=Option.some.inj h
      exact(au [] [some .bool] (cq 66 []) (by kernel_rfl)).1
     ·refine aa.aF (b:= !decide ((nth (.int .i64) a0 u1_0)=(nth (.int .i64) a1 u1_0))) (by kernel_rfl) hc4 ?_
      refine aa.skip ?_
      refine bN ?_
      change aa _ _ _ _ _
      refine aa.br tied [] [] [] [] (by kernel_rfl) trivial ?_
      exact aB.mk [.an [0,1,5] []] (by kernel_rfl) ⟨_,h3,rfl⟩
    ·refine aa.aF (b:=decide (u1_0<(List.length a0:Int))) (by kernel_rfl) hc5 ?_
     refine aa.exit ?_
     refine tE ?_
     refine lE ?_
     refine bE ?_
     obtain rfl:=Option.some.inj h3
     exact jQ.mk [.an [] []] (by kernel_rfl) ⟨_,rfl,rfl⟩
  ·rintro _ ⟨v6,rfl,rfl⟩
   dsimp only at h
   refine aa.af tied [] [] [] [] (by kernel_rfl) trivial ?_
   refine aa.ret ?_
   obtain rfl:=Option.some.inj h
   exact(au [] [some .bool] (cq 66 []) (by kernel_rfl)).1
def f220(a0:lZ)(a1:lZ):Option Bool:=
 Option.bind (if(decide (a0.1=a1.1))=true then(Option.bind (f31 a0.2.1 a1.2.1) fun y3=>if y3=true then(Option.bind (f31 a0.2.2.1 a1.2.2.1) fun y6=>some y6) else(some false)) else(some false)) fun(o1:Bool)=>some o1
set_option maxRecDepth 100000 in
theorem JD(a0:lZ)(a1:lZ)(r:Bool)(h:f220 a0 a1=some r):Fc Tryz.prog gl 220 [(.val fw a0),(.val fw a1)] (aj (List.replicate 64 none) []) (.ret (.val .bool r)) (aq 64 []):=by
 refine Fc.of Tryz.call220 (bz.aD tied Tryz.func220 rfl rfl (σ0:=ar 24 64 [(0,(.val fw a0)),(1,(.val fw a1))] []) (by kernel_rfl) ?_)
 unfold f220 at h
 refine aa.af tied [] [] [] [] (by kernel_rfl) trivial ?_
 obtain⟨o1,h1,h⟩:=bind_some h
 refine aa.ba (fun σ'=>σ'=ar 24 64 [(4,(.val .bool o1))] []) ?_ ?_
 ·rcases ae h1 with⟨hg2,h1⟩|⟨hg2,h1⟩
  ·obtain⟨y3,hy4,h1⟩:=bind_some h1
   rcases ae h1 with⟨hg5,h1⟩|⟨hg5,h1⟩
   ·obtain⟨y6,hy7,h1⟩:=bind_some h1
    refine aa.br tied [⟨(.val .bool y3),[],[],[],66⟩,⟨(.val .bool y6),[],[],[],66⟩] [true,true] [] [(decide (a0.1=a1.1))=true,Fc Tryz.prog gl 31 [(.val (.slice 32 ao) a0.2.1),(.val (.slice 32 ao) a1.2.1)] (aj (List.replicate 66 none) []) (.ret (.val .bool y3)) (aq 66 []),y3=true,Fc Tryz.prog gl 31 [(.val (.slice 32 ao) a0.2.2.1),(.val (.slice 32 ao) a1.2.2.1)] (aj (List.replicate 66 none) []) (.ret (.val .bool y6)) (aq 66 [])] (by kernel_rfl) ⟨hg2,H6 _ _ _ hy4,hg5,H6 _ _ _ hy7,trivial⟩ ?_
    obtain rfl:=Option.some.inj h1
    exact jQ.mk [.an [4] []] (by kernel_rfl) rfl
   ·refine aa.br tied [⟨(.val .bool y3),[],[],[],66⟩] [true,false] [] [(decide (a0.1=a1.1))=true,Fc Tryz.prog gl 31 [(.val (.slice 32 ao) a0.2.1),(.val (.slice 32 ao) a1.2.1)] (aj (List.replicate 66 none) []) (.ret (.val .bool y3)) (aq 66 []),y3=false] (by kernel_rfl) ⟨hg2,H6 _ _ _ hy4,hg5,trivial⟩ ?_
    obtain rfl:=Option.some.inj h1
    exact jQ.mk [.an [4] []] (by kernel_rfl) rfl
  ·refine aa.br tied [] [false,false] [] [(decide (a0.1=a1.1))=false,false=false] (by kernel_rfl) ⟨hg2,rfl,trivial⟩ ?_
   obtain rfl:=Option.some.inj h1
   exact jQ.mk [.an [4] []] (by kernel_rfl) rfl
 ·rintro _ rfl
  refine aa.ret ?_
  obtain rfl:=Option.some.inj h
  exact(au [] [some .bool] (cq 64 []) (by kernel_rfl)).1
def iw(a0:List lZ)(a1:List lZ):Nat→Int→Option (c6 Unit Bool)
 |0,_=>none
 |n1+1,u1_0=>if(decide (u1_0<(List.length a0:Int)))=true then(if 0≤u1_0∧u1_0<(List.length a0:Int) then(if u1_0<(List.length a1:Int) then(Option.bind (f220 (nth fw a0 u1_0) (nth fw a1 u1_0)) fun y4=>if(!y4)=true then(some (.ret false)) else(iw a0 a1 n1 (aP (u1_0+(1:Int))))) else none) else none) else(some (.bh ()))
def f131(a0:List lZ)(a1:List lZ):Option Bool:=
 if(!decide ((List.length a0:Int)=(List.length a1:Int)))=true then(some false) else(Option.bind (iw a0 a1 (bX) (0:Int)) fun(o1:c6 Unit Bool)=>match o1 with| .bh _v8=>(some true)| .ret r9=>(some r9))
set_option maxRecDepth 100000 in
theorem JE(a0:List lZ)(a1:List lZ)(r:Bool)(h:f131 a0 a1=some r):Fc Tryz.prog gl 131 [(.val (.slice 56 fw) a0),(.val (.slice 56 fw) a1)] (aj (List.replicate 67 none) []) (.ret (.val .bool r)) (aq 67 []):=by
 refine Fc.of Tryz.call131 (bz.aD tied Tryz.func131 rfl rfl (σ0:=ar 27 67 [(0,(.val (.slice 56 fw) a0)),(1,(.val (.slice 56 fw) a1))] []) (by kernel_rfl) ?_)
 unfold f131 at h
 refine aa.af tied [] [] [] [] (by kernel_rfl) trivial ?_
 refine aa.seq ?_
 refine aa.af tied [] [] [] [] (by kernel_rfl) trivial ?_
 rcases ae h with⟨hc10,h⟩|⟨hc10,h⟩
 ·refine aa.aE (b:= !decide ((List.length a0:Int)=(List.length a1:Int))) (by kernel_rfl) hc10 ?_
  refine aa.af tied [] [] [] [] (by kernel_rfl) trivial ?_
  refine aa.ret ?_
  obtain rfl:=Option.some.inj h
  exact(au [] [some .bool] (cq 67 []) (by kernel_rfl)).1
 ·refine aa.aF (b:= !decide ((List.length a0:Int)=(List.length a1:Int))) (by kernel_rfl) hc10 ?_
  refine aa.skip ?_
  change aa _ _ _ _ _
  obtain⟨o1,h1,h⟩:=bind_some h
  refine aa.ba (fun σ'=>∃v8,o1= .bh v8∧σ'=ar 27 67 [] []) ?_ ?_
  ·refine aa.af tied [] [] [] [] (by kernel_rfl) trivial ?_
   refine aa.block ?_
   refine aa.aB (fun n σ=>∃(u1_0:Int),iw a0 a1 n u1_0=some o1∧σ=ar 27 67 [(0,(.val (.slice 56 fw) a0)),(1,(.val (.slice 56 fw) a1)),(5,(.val (.int .i64) u1_0))] []) [.an [0,1,5] []] (by kernel_rfl) ⟨_,h1,rfl⟩ ?_
   rintro n1 _ ⟨u1_0,h3,rfl⟩
   cases n1 with
   |zero=>exact absurd h3 (by simp[iw])
   |
    succ n1=>
    unfold iw at h3
    refine aa.seq ?_
    refine aa.af tied [] [] [] [] (by kernel_rfl) trivial ?_
    rcases ae h3 with⟨hc7,h3⟩|⟨hc7,h3⟩
    ·refine aa.aE (b:=decide (u1_0<(List.length a0:Int))) (by kernel_rfl) hc7 ?_
     refine aa.skip ?_
     change aa _ _ _ _ _
     refine aa.seq ?_
     refine aa.block ?_
     obtain⟨hv2,h3⟩:=ah h3
     obtain⟨hv3,h3⟩:=ah h3
     obtain⟨y4,hy5,h3⟩:=bind_some h3
     refine aa.gn tied [⟨(.val .bool y4),[],[],[],64⟩] [] [] [0≤u1_0,u1_0<(List.length a0:Int),0≤u1_0,u1_0<(List.length a1:Int),Fc Tryz.prog gl 220 [(.val fw (nth fw a0 u1_0)),(.val fw (nth fw a1 u1_0))] (aj (List.replicate 64 none) []) (.ret (.val .bool y4)) (aq 64 [])] (by kernel_rfl) ⟨hv2.1,hv2.2,hv2.1,hv3,JD _ _ _ hy5,trivial⟩ ?_
     rcases ae h3 with⟨hc6,h3⟩|⟨hc6,h3⟩
     ·refine aa.aE (b:= !y4) (by kernel_rfl) hc6 ?_
      refine aa.af tied [] [] [] [] (by kernel_rfl) trivial ?_
      refine aa.ret ?_
      obtain rfl:=Option.some.inj h3
      dsimp only at h
      obtain rfl:=Option.some.inj h
      exact(au [] [some .bool] (cq 67 []) (by kernel_rfl)).1
     ·refine aa.aF (b:= !y4) (by kernel_rfl) hc6 ?_
      refine aa.skip ?_
      refine bN ?_
      change aa _ _ _ _ _
      refine aa.br tied [] [] [] [] (by kernel_rfl) trivial ?_
      exact aB.mk [.an [0,1,5] []] (by kernel_rfl) ⟨_,h3,rfl⟩
    ·refine aa.aF (b:=decide (u1_0<(List.length a0:Int))) (by kernel_rfl) hc7 ?_
     refine aa.exit ?_
     refine tE ?_
     refine lE ?_
     refine bE ?_
     obtain rfl:=Option.some.inj h3
     exact jQ.mk [.an [] []] (by kernel_rfl) ⟨_,rfl,rfl⟩
  ·rintro _ ⟨v8,rfl,rfl⟩
   dsimp only at h
   refine aa.af tied [] [] [] [] (by kernel_rfl) trivial ?_
   refine aa.ret ?_
   obtain rfl:=Option.some.inj h
   exact(au [] [some .bool] (cq 67 []) (by kernel_rfl)).1
def f68(a0:l3)(a1:l3):Option Bool:=
 Option.bind (if(decide (a0.1=a1.1))=true then(if(decide (a0.2.1=a1.2.1))=true then(if(decide (a0.2.2.1=a1.2.2.1))=true then(if(decide (a0.2.2.2.1=a1.2.2.2.1))=true then(if(av ao a0.2.2.2.2.1 a1.2.2.2.2.1)=true then(Option.bind (f130 a0.2.2.2.2.2.1 a1.2.2.2.2.2.1) fun y7=>if y7=true then(Option.bind (f130 a0.2.2.2.2.2.2.1 a1.2.2.2.2.2.2.1) fun y10=>if y10=true then(if(decide (a0.2.2.2.2.2.2.2.1=a1.2.2.2.2.2.2.2.1))=true then(if(av ao a0.2.2.2.2.2.2.2.2.1 a1.2.2.2.2.2.2.2.2.1)=true then(Option.bind (f131 a0.2.2.2.2.2.2.2.2.2.1 a1.2.2.2.2.2.2.2.2.2.1) fun y15=>some y15) else(some false)) else(some false)) else(some false)) else(some false)) else(some false)) else(some false)) else(some false)) else(some false)) else(some false)) fun(o1:Bool)=>some o1
set_option maxRecDepth 100000 in
theorem Lh(a0:l3)(a1:l3)(r:Bool)(h:f68 a0 a1=some r):Fc Tryz.prog gl 68 [(.val a8 a0),(.val a8 a1)] (aj (List.replicate 113 none) []) (.ret (.val .bool r)) (aq 113 []):=by
 refine Fc.of Tryz.call68 (bz.aD tied Tryz.func68 rfl rfl (σ0:=ar 73 113 [(0,(.val a8 a0)),(1,(.val a8 a1))] []) (by kernel_rfl) ?_)
 unfold f68 at h
 refine aa.af tied [] [] [] [] (by kernel_rfl) trivial ?_
 obtain⟨o1,h1,h⟩:=bind_some h
 refine aa.ba (fun σ'=>σ'=ar 73 113 [(4,(.val .bool o1))] []) ?_ ?_
 ·rcases ae h1 with⟨hg2,h1⟩|⟨hg2,h1⟩
  ·rcases ae h1 with⟨hg3,h1⟩|⟨hg3,h1⟩
   ·rcases ae h1 with⟨hg4,h1⟩|⟨hg4,h1⟩
    ·rcases ae h1 with⟨hg5,h1⟩|⟨hg5,h1⟩
     ·rcases ae h1 with⟨hg6,h1⟩|⟨hg6,h1⟩
      ·obtain⟨y7,hy8,h1⟩:=bind_some h1
       rcases ae h1 with⟨hg9,h1⟩|⟨hg9,h1⟩
       ·obtain⟨y10,hy11,h1⟩:=bind_some h1
        rcases ae h1 with⟨hg12,h1⟩|⟨hg12,h1⟩
        ·rcases ae h1 with⟨hg13,h1⟩|⟨hg13,h1⟩
         ·rcases ae h1 with⟨hg14,h1⟩|⟨hg14,h1⟩
          ·obtain⟨y15,hy16,h1⟩:=bind_some h1
           refine aa.br tied [⟨(.val .bool y7),[],[],[],66⟩,⟨(.val .bool y10),[],[],[],66⟩,⟨(.val .bool y15),[],[],[],67⟩] [true,true,true,true,true,true,true,true,true] [] [(decide (a0.1=a1.1))=true,(decide (a0.2.1=a1.2.1))=true,(decide (a0.2.2.1=a1.2.2.1))=true,(decide (a0.2.2.2.1=a1.2.2.2.1))=true,bG Tryz.prog G 40 28 ao=true,Tryz.prog.eqGuardType Tryz.prog.depth 28=false,(av ao a0.2.2.2.2.1 a1.2.2.2.2.1)=true,Fc Tryz.prog gl 130 [(.val (.slice 8 (.int .i64)) a0.2.2.2.2.2.1),(.val (.slice 8 (.int .i64)) a1.2.2.2.2.2.1)] (aj (List.replicate 66 none) []) (.ret (.val .bool y7)) (aq 66 []),y7=true,Fc Tryz.prog gl 130 [(.val (.slice 8 (.int .i64)) a0.2.2.2.2.2.2.1),(.val (.slice 8 (.int .i64)) a1.2.2.2.2.2.2.1)] (aj (List.replicate 66 none) []) (.ret (.val .bool y10)) (aq 66 []),y10=true,(decide (a0.2.2.2.2.2.2.2.1=a1.2.2.2.2.2.2.2.1))=true,bG Tryz.prog G 40 28 ao=true,Tryz.prog.eqGuardType Tryz.prog.depth 28=false,(av ao a0.2.2.2.2.2.2.2.2.1 a1.2.2.2.2.2.2.2.2.1)=true,Fc Tryz.prog gl 131 [(.val (.slice 56 fw) a0.2.2.2.2.2.2.2.2.2.1),(.val (.slice 56 fw) a1.2.2.2.2.2.2.2.2.2.1)] (aj (List.replicate 67 none) []) (.ret (.val .bool y15)) (aq 67 [])] (by kernel_rfl) ⟨hg2,hg3,hg4,hg5,bn,bx,hg6,tT _ _ _ hy8,hg9,tT _ _ _ hy11,hg12,hg13,bn,bx,hg14,JE _ _ _ hy16,trivial⟩ ?_
           obtain rfl:=Option.some.inj h1
           exact jQ.mk [.an [4] []] (by kernel_rfl) rfl
          ·refine aa.br tied [⟨(.val .bool y7),[],[],[],66⟩,⟨(.val .bool y10),[],[],[],66⟩] [true,true,true,true,true,true,true,true,false] [] [(decide (a0.1=a1.1))=true,(decide (a0.2.1=a1.2.1))=true,(decide (a0.2.2.1=a1.2.2.1))=true,(decide (a0.2.2.2.1=a1.2.2.2.1))=true,bG Tryz.prog G 40 28 ao=true,Tryz.prog.eqGuardType Tryz.prog.depth 28=false,(av ao a0.2.2.2.2.1 a1.2.2.2.2.1)=true,Fc Tryz.prog gl 130 [(.val (.slice 8 (.int .i64)) a0.2.2.2.2.2.1),(.val (.slice 8 (.int .i64)) a1.2.2.2.2.2.1)] (aj (List.replicate 66 none) []) (.ret (.val .bool y7)) (aq 66 []),y7=true,Fc Tryz.prog gl 130 [(.val (.slice 8 (.int .i64)) a0.2.2.2.2.2.2.1),(.val (.slice 8 (.int .i64)) a1.2.2.2.2.2.2.1)] (aj (List.replicate 66 none) []) (.ret (.val .bool y10)) (aq 66 []),y10=true,(decide (a0.2.2.2.2.2.2.2.1=a1.2.2.2.2.2.2.2.1))=true,bG Tryz.prog G 40 28 ao=true,Tryz.prog.eqGuardType Tryz.prog.depth 28=false,(av ao a0.2.2.2.2.2.2.2.2.1 a1.2.2.2.2.2.2.2.2.1)=false] (by kernel_rfl) ⟨hg2,hg3,hg4,hg5,bn,bx,hg6,tT _ _ _ hy8,hg9,tT _ _ _ hy11,hg12,hg13,bn,bx,hg14,trivial⟩ ?_
           obtain rfl:=Option.some.inj h1
           exact jQ.mk [.an [4] []] (by kernel_rfl) rfl
         ·refine aa.br tied [⟨(.val .bool y7),[],[],[],66⟩,⟨(.val .bool y10),[],[],[],66⟩] [true,true,true,true,true,true,true,false,false] [] [(decide (a0.1=a1.1))=true,(decide (a0.2.1=a1.2.1))=true,(decide (a0.2.2.1=a1.2.2.1))=true,(decide (a0.2.2.2.1=a1.2.2.2.1))=true,bG Tryz.prog G 40 28 ao=true,Tryz.prog.eqGuardType Tryz.prog.depth 28=false,(av ao a0.2.2.2.2.1 a1.2.2.2.2.1)=true,Fc Tryz.prog gl 130 [(.val (.slice 8 (.int .i64)) a0.2.2.2.2.2.1),(.val (.slice 8 (.int .i64)) a1.2.2.2.2.2.1)] (aj (List.replicate 66 none) []) (.ret (.val .bool y7)) (aq 66 []),y7=true,Fc Tryz.prog gl 130 [(.val (.slice 8 (.int .i64)) a0.2.2.2.2.2.2.1),(.val (.slice 8 (.int .i64)) a1.2.2.2.2.2.2.1)] (aj (List.replicate 66 none) []) (.ret (.val .bool y10)) (aq 66 []),y10=true,(decide (a0.2.2.2.2.2.2.2.1=a1.2.2.2.2.2.2.2.1))=false,false=false] (by kernel_rfl) ⟨hg2,hg3,hg4,hg5,bn,bx,hg6,tT _ _ _ hy8,hg9,tT _ _ _ hy11,hg12,hg13,rfl,trivial⟩ ?_
          obtain rfl:=Option.some.inj h1
          exact jQ.mk [.an [4] []] (by kernel_rfl) rfl
        ·refine aa.br tied [⟨(.val .bool y7),[],[],[],66⟩,⟨(.val .bool y10),[],[],[],66⟩] [true,true,true,true,true,true,false,false,false] [] [(decide (a0.1=a1.1))=true,(decide (a0.2.1=a1.2.1))=true,(decide (a0.2.2.1=a1.2.2.1))=true,(decide (a0.2.2.2.1=a1.2.2.2.1))=true,bG Tryz.prog G 40 28 ao=true,Tryz.prog.eqGuardType Tryz.prog.depth 28=false,(av ao a0.2.2.2.2.1 a1.2.2.2.2.1)=true,Fc Tryz.prog gl 130 [(.val (.slice 8 (.int .i64)) a0.2.2.2.2.2.1),(.val (.slice 8 (.int .i64)) a1.2.2.2.2.2.1)] (aj (List.replicate 66 none) []) (.ret (.val .bool y7)) (aq 66 []),y7=true,Fc Tryz.prog gl 130 [(.val (.slice 8 (.int .i64)) a0.2.2.2.2.2.2.1),(.val (.slice 8 (.int .i64)) a1.2.2.2.2.2.2.1)] (aj (List.replicate 66 none) []) (.ret (.val .bool y10)) (aq 66 []),y10=false,false=false,false=false] (by kernel_rfl) ⟨hg2,hg3,hg4,hg5,bn,bx,hg6,tT _ _ _ hy8,hg9,tT _ _ _ hy11,hg12,rfl,rfl,trivial⟩ ?_
         obtain rfl:=Option.some.inj h1
         exact jQ.mk [.an [4] []] (by kernel_rfl) rfl
       ·refine aa.br tied [⟨(.val .bool y7),[],[],[],66⟩] [true,true,true,true,true,false,false,false,false] [] [(decide (a0.1=a1.1))=true,(decide (a0.2.1=a1.2.1))=true,(decide (a0.2.2.1=a1.2.2.1))=true,(decide (a0.2.2.2.1=a1.2.2.2.1))=true,bG Tryz.prog G 40 28 ao=true,Tryz.prog.eqGuardType Tryz.prog.depth 28=false,(av ao a0.2.2.2.2.1 a1.2.2.2.2.1)=true,Fc Tryz.prog gl 130 [(.val (.slice 8 (.int .i64)) a0.2.2.2.2.2.1),(.val (.slice 8 (.int .i64)) a1.2.2.2.2.2.1)] (aj (List.replicate 66 none) []) (.ret (.val .bool y7)) (aq 66 []),y7=false,false=false,false=false,false=false] (by kernel_rfl) ⟨hg2,hg3,hg4,hg5,bn,bx,hg6,tT _ _ _ hy8,hg9,rfl,rfl,rfl,trivial⟩ ?_
        obtain rfl:=Option.some.inj h1
        exact jQ.mk [.an [4] []] (by kernel_rfl) rfl
      ·refine aa.br tied [] [true,true,true,true,false,false,false,false,false] [] [(decide (a0.1=a1.1))=true,(decide (a0.2.1=a1.2.1))=true,(decide (a0.2.2.1=a1.2.2.1))=true,(decide (a0.2.2.2.1=a1.2.2.2.1))=true,bG Tryz.prog G 40 28 ao=true,Tryz.prog.eqGuardType Tryz.prog.depth 28=false,(av ao a0.2.2.2.2.1 a1.2.2.2.2.1)=false,false=false,false=false,false=false,false=false] (by kernel_rfl) ⟨hg2,hg3,hg4,hg5,bn,bx,hg6,rfl,rfl,rfl,rfl,trivial⟩ ?_
       obtain rfl:=Option.some.inj h1
       exact jQ.mk [.an [4] []] (by kernel_rfl) rfl
     ·refine aa.br tied [] [true,true,true,false,false,false,false,false,false] [] [(decide (a0.1=a1.1))=true,(decide (a0.2.1=a1.2.1))=true,(decide (a0.2.2.1=a1.2.2.1))=true,(decide (a0.2.2.2.1=a1.2.2.2.1))=false,false=false,false=false,false=false,false=false,false=false] (by kernel_rfl) ⟨hg2,hg3,hg4,hg5,rfl,rfl,rfl,rfl,rfl,trivial⟩ ?_
      obtain rfl:=Option.some.inj h1
      exact jQ.mk [.an [4] []] (by kernel_rfl) rfl
    ·refine aa.br tied [] [true,true,false,false,false,false,false,false,false] [] [(decide (a0.1=a1.1))=true,(decide (a0.2.1=a1.2.1))=true,(decide (a0.2.2.1=a1.2.2.1))=false,false=false,false=false,false=false,false=false,false=false,false=false] (by kernel_rfl) ⟨hg2,hg3,hg4,rfl,rfl,rfl,rfl,rfl,rfl,trivial⟩ ?_
     obtain rfl:=Option.some.inj h1
     exact jQ.mk [.an [4] []] (by kernel_rfl) rfl
   ·refine aa.br tied [] [true,false,false,false,false,false,false,false,false] [] [(decide (a0.1=a1.1))=true,(decide (a0.2.1=a1.2.1))=false,false=false,false=false,false=false,false=false,false=false,false=false,false=false] (by kernel_rfl) ⟨hg2,hg3,rfl,rfl,rfl,rfl,rfl,rfl,rfl,trivial⟩ ?_
    obtain rfl:=Option.some.inj h1
    exact jQ.mk [.an [4] []] (by kernel_rfl) rfl
  ·refine aa.br tied [] [false,false,false,false,false,false,false,false,false] [] [(decide (a0.1=a1.1))=false,false=false,false=false,false=false,false=false,false=false,false=false,false=false,false=false] (by kernel_rfl) ⟨hg2,rfl,rfl,rfl,rfl,rfl,rfl,rfl,rfl,trivial⟩ ?_
   obtain rfl:=Option.some.inj h1
   exact jQ.mk [.an [4] []] (by kernel_rfl) rfl
 ·rintro _ rfl
  refine aa.ret ?_
  obtain rfl:=Option.some.inj h
  exact(au [] [some .bool] (cq 113 []) (by kernel_rfl)).1
def jy(a0:cI)(a1:cI):Nat→Int→Option (c6 Unit Bool)
 |0,_=>none
 |n1+1,u1_0=>if(decide (u1_0<(List.length a0.2.2.2.2.1:Int)))=true then(if 0≤u1_0∧u1_0<(List.length a0.2.2.2.2.1:Int) then(if u1_0<(List.length a1.2.2.2.2.1:Int) then(Option.bind (f68 (nth a8 a0.2.2.2.2.1 u1_0) (nth a8 a1.2.2.2.2.1 u1_0)) fun y13=>if(!y13)=true then(some (.ret false)) else(jy a0 a1 n1 (aP (u1_0+(1:Int))))) else none) else none) else(some (.bh ()))
def jz(a0:cI)(a1:cI):Nat→Int→Option (c6 Unit Bool)
 |0,_=>none
 |n2+1,u2_0=>if(decide (u2_0<(List.length a0.2.2.2.2.2.1:Int)))=true then(if 0≤u2_0∧u2_0<(List.length a0.2.2.2.2.2.1:Int) then(if u2_0<(List.length a1.2.2.2.2.2.1:Int) then(Option.bind (f31 (nth (.slice 32 ao) a0.2.2.2.2.2.1 u2_0) (nth (.slice 32 ao) a1.2.2.2.2.2.1 u2_0)) fun y21=>if(!y21)=true then(some (.ret false)) else(jz a0 a1 n2 (aP (u2_0+(1:Int))))) else none) else none) else(some (.bh ()))
def f37(a0:cI)(a1:cI):Option Bool:=
 Option.bind (Option.bind (if(!decide (a0.1=a1.1))=true then(some true) else(if(!decide (a0.2.1=a1.2.1))=true then(some true) else(if(!av ao a0.2.2.1 a1.2.2.1)=true then(some true) else(if(!av ao a0.2.2.2.1 a1.2.2.2.1)=true then(some true) else(if(!decide ((List.length a0.2.2.2.2.1:Int)=(List.length a1.2.2.2.2.1:Int)))=true then(some true) else(some (!decide ((List.length a0.2.2.2.2.2.1:Int)=(List.length a1.2.2.2.2.2.1:Int))))))))) fun(o2:Bool)=>if o2=true then(some (.ret false)) else(some (.bh ()))) fun(o1:c6 Unit Bool)=>match o1 with| .bh _v9=>(Option.bind (jy a0 a1 (bX) (0:Int)) fun(o10:c6 Unit Bool)=>match o10 with| .bh _v17=>(Option.bind (jz a0 a1 (bX) (0:Int)) fun(o18:c6 Unit Bool)=>match o18 with| .bh _v25=>(some true)| .ret r26=>(some r26))| .ret r27=>(some r27))| .ret r28=>(some r28)
set_option maxRecDepth 100000 in
theorem Li(a0:cI)(a1:cI)(r:Bool)(h:f37 a0 a1=some r):Fc Tryz.prog gl 37 [(.val aI a0),(.val aI a1)] (aj (List.replicate 129 none) []) (.ret (.val .bool r)) (aq 129 []):=by
 refine Fc.of Tryz.call37 (bz.aD tied Tryz.func37 rfl rfl (σ0:=ar 89 129 [(0,(.val aI a0)),(1,(.val aI a1))] []) (by kernel_rfl) ?_)
 unfold f37 at h
 refine aa.af tied [] [] [] [] (by kernel_rfl) trivial ?_
 obtain⟨o1,h1,h⟩:=bind_some h
 refine aa.ba (fun σ'=>∃v9,o1= .bh v9∧σ'=ar 89 129 [(2,(.ptr 18 [])),(3,(.ptr 19 []))] [(18,some (.var aI (.val aI a0))),(19,some (.var aI (.val aI a1)))]) ?_ ?_
 ·obtain⟨o2,h3,h1⟩:=bind_some h1
  refine aa.ba (fun σ'=>σ'=ar 89 129 [(2,(.ptr 18 [])),(3,(.ptr 19 [])),(50,(.val .bool o2))] [(18,some (.var aI (.val aI a0))),(19,some (.var aI (.val aI a1)))]) ?_ ?_
  ·rcases ae h3 with⟨hg3,h3⟩|⟨hg3,h3⟩
   ·refine aa.br tied [] [true,true,true,true,true] [] [(!decide (a0.1=a1.1))=true,true=true,true=true,true=true,true=true] (by kernel_rfl) ⟨hg3,rfl,rfl,rfl,rfl,trivial⟩ ?_
    obtain rfl:=Option.some.inj h3
    exact jQ.mk [.an [2,3,50] [18,19]] (by kernel_rfl) rfl
   ·rcases ae h3 with⟨hg4,h3⟩|⟨hg4,h3⟩
    ·refine aa.br tied [] [false,true,true,true,true] [] [(!decide (a0.1=a1.1))=false,(!decide (a0.2.1=a1.2.1))=true,true=true,true=true,true=true] (by kernel_rfl) ⟨hg3,hg4,rfl,rfl,rfl,trivial⟩ ?_
     obtain rfl:=Option.some.inj h3
     exact jQ.mk [.an [2,3,50] [18,19]] (by kernel_rfl) rfl
    ·rcases ae h3 with⟨hg5,h3⟩|⟨hg5,h3⟩
     ·refine aa.br tied [] [false,false,true,true,true] [] [(!decide (a0.1=a1.1))=false,(!decide (a0.2.1=a1.2.1))=false,bG Tryz.prog G 40 28 ao=true,Tryz.prog.eqGuardType Tryz.prog.depth 28=false,(!av ao a0.2.2.1 a1.2.2.1)=true,true=true,true=true] (by kernel_rfl) ⟨hg3,hg4,bn,bx,hg5,rfl,rfl,trivial⟩ ?_
      obtain rfl:=Option.some.inj h3
      exact jQ.mk [.an [2,3,50] [18,19]] (by kernel_rfl) rfl
     ·rcases ae h3 with⟨hg6,h3⟩|⟨hg6,h3⟩
      ·refine aa.br tied [] [false,false,false,true,true] [] [(!decide (a0.1=a1.1))=false,(!decide (a0.2.1=a1.2.1))=false,bG Tryz.prog G 40 28 ao=true,Tryz.prog.eqGuardType Tryz.prog.depth 28=false,(!av ao a0.2.2.1 a1.2.2.1)=false,bG Tryz.prog G 40 28 ao=true,Tryz.prog.eqGuardType Tryz.prog.depth 28=false,(!av ao a0.2.2.2.1 a1.2.2.2.1)=true,true=true] (by kernel_rfl) ⟨hg3,hg4,bn,bx,hg5,bn,bx,hg6,rfl,trivial⟩ ?_
       obtain rfl:=Option.some.inj h3
       exact jQ.mk [.an [2,3,50] [18,19]] (by kernel_rfl) rfl
      ·rcases ae h3 with⟨hg7,h3⟩|⟨hg7,h3⟩
       ·refine aa.br tied [] [false,false,false,false,true] [] [(!decide (a0.1=a1.1))=false,(!decide (a0.2.1=a1.2.1))=false,bG Tryz.prog G 40 28 ao=true,Tryz.prog.eqGuardType Tryz.prog.depth 28=false,(!av ao a0.2.2.1 a1.2.2.1)=false,bG Tryz.prog G 40 28 ao=true,Tryz.prog.eqGuardType Tryz.prog.depth 28=false,(!av ao a0.2.2.2.1 a1.2.2.2.1)=false,(!decide ((List.length a0.2.2.2.2.1:Int)=(List.length a1.2.2.2.2.1:Int)))=true] (by kernel_rfl) ⟨hg3,hg4,bn,bx,hg5,bn,bx,hg6,hg7,trivial⟩ ?_
        obtain rfl:=Option.some.inj h3
        exact jQ.mk [.an [2,3,50] [18,19]] (by kernel_rfl) rfl
       ·refine aa.br tied [] [false,false,false,false,false] [] [(!decide (a0.1=a1.1))=false,(!decide (a0.2.1=a1.2.1))=false,bG Tryz.prog G 40 28 ao=true,Tryz.prog.eqGuardType Tryz.prog.depth 28=false,(!av ao a0.2.2.1 a1.2.2.1)=false,bG Tryz.prog G 40 28 ao=true,Tryz.prog.eqGuardType Tryz.prog.depth 28=false,(!av ao a0.2.2.2.1 a1.2.2.2.1)=false,(!decide ((List.length a0.2.2.2.2.1:Int)=(List.length a1.2.2.2.2.1:Int)))=false] (by kernel_rfl) ⟨hg3,hg4,bn,bx,hg5,bn,bx,hg6,hg7,trivial⟩ ?_
        obtain rfl:=Option.some.inj h3
        exact jQ.mk [.an [2,3,50] [18,19]] (by kernel_rfl) rfl
  ·rintro _ rfl
   rcases ae h1 with⟨hc8,h1⟩|⟨hc8,h1⟩
   ·refine aa.aE (b:=o2) (by kernel_rfl) hc8 ?_
    refine aa.af tied [] [] [] [] (by kernel_rfl) trivial ?_
    refine aa.ret ?_
    obtain rfl:=Option.some.inj h1
    dsimp only at h
    obtain rfl:=Option.some.inj h
    exact(au [] [some .bool] (cq 129 []) (by kernel_rfl)).1
   ·refine aa.aF (b:=o2) (by kernel_rfl) hc8 ?_
    refine aa.skip ?_
    obtain rfl:=Option.some.inj h1
    exact jQ.mk [.an [2,3] [18,19]] (by kernel_rfl) ⟨_,rfl,rfl⟩
 ·rintro _ ⟨v9,rfl,rfl⟩
  dsimp only at h
  obtain⟨o10,h4,h⟩:=bind_some h
  refine aa.ba (fun σ'=>∃v17,o10= .bh v17∧σ'=ar 89 129 [(2,(.ptr 18 [])),(3,(.ptr 19 []))] [(18,some (.var aI (.val aI a0))),(19,some (.var aI (.val aI a1)))]) ?_ ?_
  ·refine aa.af tied [] [] [] [] (by kernel_rfl) trivial ?_
   refine aa.block ?_
   refine aa.aB (fun n σ=>∃(u1_0:Int),jy a0 a1 n u1_0=some o10∧σ=ar 89 129 [(2,(.ptr 18 [])),(3,(.ptr 19 [])),(5,(.val (.int .i64) u1_0))] [(18,some (.var aI (.val aI a0))),(19,some (.var aI (.val aI a1)))]) [.an [2,3,5] [18,19]] (by kernel_rfl) ⟨_,h4,rfl⟩ ?_
   rintro n1 _ ⟨u1_0,h6,rfl⟩
   cases n1 with
   |zero=>exact absurd h6 (by simp[jy])
   |
    succ n1=>
    unfold jy at h6
    refine aa.seq ?_
    refine aa.af tied [] [] [] [] (by kernel_rfl) trivial ?_
    rcases ae h6 with⟨hc16,h6⟩|⟨hc16,h6⟩
    ·refine aa.aE (b:=decide (u1_0<(List.length a0.2.2.2.2.1:Int))) (by kernel_rfl) hc16 ?_
     refine aa.skip ?_
     change aa _ _ _ _ _
     refine aa.seq ?_
     refine aa.block ?_
     obtain⟨hv11,h6⟩:=ah h6
     obtain⟨hv12,h6⟩:=ah h6
     obtain⟨y13,hy14,h6⟩:=bind_some h6
     refine aa.gn tied [⟨(.val .bool y13),[],[],[],113⟩] [] [] [0≤u1_0,u1_0<(List.length a0.2.2.2.2.1:Int),0≤u1_0,u1_0<(List.length a1.2.2.2.2.1:Int),Fc Tryz.prog gl 68 [(.val a8 (nth a8 a0.2.2.2.2.1 u1_0)),(.val a8 (nth a8 a1.2.2.2.2.1 u1_0))] (aj (List.replicate 113 none) []) (.ret (.val .bool y13)) (aq 113 [])] (by kernel_rfl) ⟨hv11.1,hv11.2,hv11.1,hv12,Lh _ _ _ hy14,trivial⟩ ?_
     rcases ae h6 with⟨hc15,h6⟩|⟨hc15,h6⟩
     ·refine aa.aE (b:= !y13) (by kernel_rfl) hc15 ?_
      refine aa.af tied [] [] [] [] (by kernel_rfl) trivial ?_
      refine aa.ret ?_
      obtain rfl:=Option.some.inj h6
      dsimp only at h
      obtain rfl:=Option.some.inj h
      exact(au [] [some .bool] (cq 129 []) (by kernel_rfl)).1
     ·refine aa.aF (b:= !y13) (by kernel_rfl) hc15 ?_
      refine aa.skip ?_
      refine bN ?_
      change aa _ _ _ _ _
      refine aa.br tied [] [] [] [] (by kernel_rfl) trivial ?_
      exact aB.mk [.an [2,3,5] [18,19]] (by kernel_rfl) ⟨_,h6,rfl⟩
    ·refine aa.aF (b:=decide (u1_0<(List.length a0.2.2.2.2.1:Int))) (by kernel_rfl) hc16 ?_
     refine aa.exit ?_
     refine tE ?_
     refine lE ?_
     refine bE ?_
     obtain rfl:=Option.some.inj h6
     exact jQ.mk [.an [2,3] [18,19]] (by kernel_rfl) ⟨_,rfl,rfl⟩
  ·rintro _ ⟨v17,rfl,rfl⟩
   dsimp only at h
   obtain⟨o18,h7,h⟩:=bind_some h
   refine aa.ba (fun σ'=>∃v25,o18= .bh v25∧σ'=ar 89 129 [] []) ?_ ?_
   ·refine aa.af tied [] [] [] [] (by kernel_rfl) trivial ?_
    refine aa.block ?_
    refine aa.aB (fun n σ=>∃(u2_0:Int),jz a0 a1 n u2_0=some o18∧σ=ar 89 129 [(2,(.ptr 18 [])),(3,(.ptr 19 [])),(6,(.val (.int .i64) u2_0))] [(18,some (.var aI (.val aI a0))),(19,some (.var aI (.val aI a1)))]) [.an [2,3,6] [18,19]] (by kernel_rfl) ⟨_,h7,rfl⟩ ?_
    rintro n2 _ ⟨u2_0,h9,rfl⟩
    cases n2 with
    |zero=>exact absurd h9 (by simp[jz])
    |
     succ n2=>
     unfold jz at h9
     refine aa.seq ?_
     refine aa.af tied [] [] [] [] (by kernel_rfl) trivial ?_
     rcases ae h9 with⟨hc24,h9⟩|⟨hc24,h9⟩
     ·refine aa.aE (b:=decide (u2_0<(List.length a0.2.2.2.2.2.1:Int))) (by kernel_rfl) hc24 ?_
      refine aa.skip ?_
      change aa _ _ _ _ _
      refine aa.seq ?_
      refine aa.block ?_
      obtain⟨hv19,h9⟩:=ah h9
      obtain⟨hv20,h9⟩:=ah h9
      obtain⟨y21,hy22,h9⟩:=bind_some h9
      refine aa.gn tied [⟨(.val .bool y21),[],[],[],66⟩] [] [] [0≤u2_0,u2_0<(List.length a0.2.2.2.2.2.1:Int),0≤u2_0,u2_0<(List.length a1.2.2.2.2.2.1:Int),Fc Tryz.prog gl 31 [(.val (.slice 32 ao) (nth (.slice 32 ao) a0.2.2.2.2.2.1 u2_0)),(.val (.slice 32 ao) (nth (.slice 32 ao) a1.2.2.2.2.2.1 u2_0))] (aj (List.replicate 66 none) []) (.ret (.val .bool y21)) (aq 66 [])] (by kernel_rfl) ⟨hv19.1,hv19.2,hv19.1,hv20,H6 _ _ _ hy22,trivial⟩ ?_
      rcases ae h9 with⟨hc23,h9⟩|⟨hc23,h9⟩
      ·refine aa.aE (b:= !y21) (by kernel_rfl) hc23 ?_
       refine aa.af tied [] [] [] [] (by kernel_rfl) trivial ?_
       refine aa.ret ?_
       obtain rfl:=Option.some.inj h9
       dsimp only at h
       obtain rfl:=Option.some.inj h
       exact(au [] [some .bool] (cq 129 []) (by kernel_rfl)).1
      ·refine aa.aF (b:= !y21) (by kernel_rfl) hc23 ?_
       refine aa.skip ?_
       refine bN ?_
       change aa _ _ _ _ _
       refine aa.br tied [] [] [] [] (by kernel_rfl) trivial ?_
       exact aB.mk [.an [2,3,6] [18,19]] (by kernel_rfl) ⟨_,h9,rfl⟩
     ·refine aa.aF (b:=decide (u2_0<(List.length a0.2.2.2.2.2.1:Int))) (by kernel_rfl) hc24 ?_
      refine aa.exit ?_
      refine tE ?_
      refine lE ?_
      refine bE ?_
      obtain rfl:=Option.some.inj h9
      exact jQ.mk [.an [] []] (by kernel_rfl) ⟨_,rfl,rfl⟩
   ·rintro _ ⟨v25,rfl,rfl⟩
    dsimp only at h
    refine aa.af tied [] [] [] [] (by kernel_rfl) trivial ?_
    refine aa.ret ?_
    obtain rfl:=Option.some.inj h
    exact(au [] [some .bool] (cq 129 []) (by kernel_rfl)).1
def f14(a0:cI)(a1:cI):Option Bool:=
 Option.bind (f37 a0 a1) fun y1=>some y1
set_option maxRecDepth 100000 in
theorem mq(a0:cI)(a1:cI)(r:Bool)(h:f14 a0 a1=some r):Fc Tryz.prog gl 14 [(.val aI a0),(.val aI a1)] (aj (List.replicate 48 none) []) (.ret (.val .bool r)) (aq 48 []):=by
 refine Fc.of Tryz.call14 (bz.aD tied Tryz.func14 rfl rfl (σ0:=ar 8 48 [(0,(.val aI a0)),(1,(.val aI a1))] []) (by kernel_rfl) ?_)
 unfold f14 at h
 refine aa.af tied [] [] [] [] (by kernel_rfl) trivial ?_
 obtain⟨y1,hy2,h⟩:=bind_some h
 refine aa.af tied [⟨(.val .bool y1),[],[],[],129⟩] [] [] [Fc Tryz.prog gl 37 [(.val aI a0),(.val aI a1)] (aj (List.replicate 129 none) []) (.ret (.val .bool y1)) (aq 129 [])] (by kernel_rfl) ⟨Li _ _ _ hy2,trivial⟩ ?_
 refine aa.ret ?_
 obtain rfl:=Option.some.inj h
 exact(au [] [some .bool] (cq 48 []) (by kernel_rfl)).1
end Go.Proofs.YtjabllhapfphoaaGreatDoor
