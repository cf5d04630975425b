/- Made by program (dec.py): walks -/
import Derived.Test.YtmpdeifdnbhdiaaGreatDoorF4
import Derived.Test.YtmpdeifdnbhdiaaGreatDoorM1
set_option maxRecDepth 100000
namespace Go.Proofs.YtmpdeifdnbhdiaaGreatDoor
open Go.Abs
def f47(a0:List UInt8)(a1:List Int):Option aO:=
 Option.bind (JI (bytesOf a0)) fun y1=>if(List.length ([]:List Int)+List.length (List.take (32 -0) (List.drop 0 y1)))*1≤az then(if(List.length (List.take (32 -0) (List.drop 0 y1))+List.length a1)*1≤az then(Option.bind (JI ((List.take (32 -0) (List.drop 0 y1))++a1)) fun y5=>some y5) else none) else none
abbrev Qu(a0:List UInt8)(a1:List Int)(r:aO):Prop:=Fc Tryz.prog gl 47 [(.val .str a0),(.val (.slice 1 (.int .u8)) a1)] (aA (List.replicate 55 none) []) (.ret (.val aD r)) (bz 55 [])
theorem Q9(a0:List UInt8)(a1:List Int)(r:aO)(h:f47 a0 a1=some r):Qu a0 a1 r:=by
 refine Fc.of Tryz.call47 (bW.aG tied Tryz.func47 rfl rfl (σ0:=ao 15 55 [(0,(.val .str a0)),(1,(.val (.slice 1 (.int .u8)) a1))] []) (by kernel_rfl) ?_)
 unfold f47 at h
 refine aF ?_
 obtain⟨y1,hy2,h⟩:=bind_some h
 refine cH [⟨(.val aD y1),[],[],[],82⟩] [] [] [Pg (bytesOf a0) y1] ⟨Qo _ _ hy2,trivial⟩ ?_
 obtain⟨hv3,h⟩:=ab h
 obtain⟨SL,h⟩:=ab h
 obtain⟨y5,hy6,h⟩:=bind_some h
 refine cH [⟨(.val aD y5),[],[],[],82⟩] [] [] [(List.length ([]:List Int)+List.length (List.take (32 -0) (List.drop 0 y1)))*1≤az,(List.length (List.take (32 -0) (List.drop 0 y1))+List.length a1)*1≤az,Pg ((List.take (32 -0) (List.drop 0 y1))++a1) y5] ⟨hv3,SL,Qo _ _ hy6,trivial⟩ ?_
 refine ai.ret ?_
 obtain rfl:=Option.some.inj h
 exact(av [] [some aD] (cL 55 []) (by kernel_rfl)).1
def f23(a0:aO)(a1:Int):Option aO:=
 if(List.length ([]:List Int)+List.length (List.take (32 -0) (List.drop 0 a0)))*1≤az then(if(List.length (List.take (32 -0) (List.drop 0 a0))+List.length [IntKind.u8.wrap (Int.fdiv a1 (2^(min (Int.toNat (24:Int)) 64))),IntKind.u8.wrap (Int.fdiv a1 (2^(min (Int.toNat (16:Int)) 64))),IntKind.u8.wrap (Int.fdiv a1 (2^(min (Int.toNat (8:Int)) 64))),IntKind.u8.wrap (a1)])*1≤az then(Option.bind (f47 [112,108,97,99,101] ((List.take (32 -0) (List.drop 0 a0))++[IntKind.u8.wrap (Int.fdiv a1 (2^(min (Int.toNat (24:Int)) 64))),IntKind.u8.wrap (Int.fdiv a1 (2^(min (Int.toNat (16:Int)) 64))),IntKind.u8.wrap (Int.fdiv a1 (2^(min (Int.toNat (8:Int)) 64))),IntKind.u8.wrap (a1)])) fun y3=>some y3) else none) else none
abbrev PH(a0:aO)(a1:Int)(r:aO):Prop:=Fc Tryz.prog gl 23 [(.val aD a0),(.val (.int .i64) a1)] (aA (List.replicate 65 none) []) (.ret (.val aD r)) (bz 65 [])
theorem Qv(a0:aO)(a1:Int)(r:aO)(h:f23 a0 a1=some r):PH a0 a1 r:=by
 refine Fc.of Tryz.call23 (bW.aG tied Tryz.func23 rfl rfl (σ0:=ao 25 65 [(0,(.val aD a0)),(1,(.val (.int .i64) a1))] []) (by kernel_rfl) ?_)
 unfold f23 at h
 refine aF ?_
 obtain⟨hv1,h⟩:=ab h
 refine cH [] [] [] [(List.length ([]:List Int)+List.length (List.take (32 -0) (List.drop 0 a0)))*1≤az] ⟨hv1,trivial⟩ ?_
 obtain⟨Sx,h⟩:=ab h
 refine cH [] [] [] [0≤(24:Int),0≤(16:Int),0≤(8:Int),(List.length (List.take (32 -0) (List.drop 0 a0))+List.length [IntKind.u8.wrap (Int.fdiv a1 (2^(min (Int.toNat (24:Int)) 64))),IntKind.u8.wrap (Int.fdiv a1 (2^(min (Int.toNat (16:Int)) 64))),IntKind.u8.wrap (Int.fdiv a1 (2^(min (Int.toNat (8:Int)) 64))),IntKind.u8.wrap (a1)])*1≤az] ⟨(by decide),(by decide),(by decide),Sx,trivial⟩ ?_
 obtain⟨y3,hy4,h⟩:=bind_some h
 refine cH [⟨(.val aD y3),[],[],[],55⟩] [] [] [Qu [112,108,97,99,101] ((List.take (32 -0) (List.drop 0 a0))++[IntKind.u8.wrap (Int.fdiv a1 (2^(min (Int.toNat (24:Int)) 64))),IntKind.u8.wrap (Int.fdiv a1 (2^(min (Int.toNat (16:Int)) 64))),IntKind.u8.wrap (Int.fdiv a1 (2^(min (Int.toNat (8:Int)) 64))),IntKind.u8.wrap (a1)]) y3] ⟨Q9 _ _ _ hy4,trivial⟩ ?_
 refine ai.ret ?_
 obtain rfl:=Option.some.inj h
 exact(av [] [some aD] (cL 65 []) (by kernel_rfl)).1
def iu(a0:aO)(a1:aO):Nat→Int→Option (iQ Unit Bool)
 |0,_=>none
 |n1+1,RS=>if(decide (RS<(32:Int)))=true then(if 0≤RS∧RS<(32:Int) then(if(!decide ((nth (.int .u8) a0 RS)=(nth (.int .u8) a1 RS)))=true then(some (.ret (decide ((nth (.int .u8) a0 RS)<(nth (.int .u8) a1 RS))))) else(iu a0 a1 n1 (al (RS+(1:Int))))) else none) else(some (.brk ()))
def f22(a0:aO)(a1:aO):Option Bool:=
 Option.bind (iu a0 a1 (bC) (0:Int)) fun(o1:iQ Unit Bool)=>match o1 with| .brk _v5=>(some false)| .ret r6=>(some r6)
abbrev Km(a0:aO)(a1:aO)(r:Bool):Prop:=Fc Tryz.prog gl 22 [(.val aD a0),(.val aD a1)] (aA (List.replicate 64 none) []) (.ret (.val .bool r)) (bz 64 [])
theorem Ra(a0:aO)(a1:aO)(r:Bool)(h:f22 a0 a1=some r):Km a0 a1 r:=by
 refine Fc.of Tryz.call22 (bW.aG tied Tryz.func22 rfl rfl (σ0:=ao 24 64 [(0,(.val aD a0)),(1,(.val aD a1))] []) (by kernel_rfl) ?_)
 unfold f22 at h
 refine aF ?_
 obtain⟨o1,h1,h⟩:=bind_some h
 refine ai.aZ (fun σ'=>∃v5,o1= .brk v5∧σ'=ao 24 64 [] []) ?_ ?_
 ·refine aF ?_
  refine ai.block ?_
  refine ai.aV (fun n σ=>∃(RS:Int),iu a0 a1 n RS=some o1∧σ=ao 24 64 [(2,(.ptr 18 [])),(3,(.ptr 19 [])),(5,(.val (.int .i64) RS))] [(18,some (.var aD (.val aD a0))),(19,some (.var aD (.val aD a1)))]) [.ak [2,3,5] [18,19]] (by kernel_rfl) ⟨_,h1,rfl⟩ ?_
  rintro n1 _ ⟨RS,h3,rfl⟩
  cases n1 with
  |zero=>exact absurd h3 (by simp[iu])
  |
   succ n1=>
   unfold iu at h3
   refine ai.seq ?_
   refine aF ?_
   rcases ae h3 with⟨hc4,h3⟩|⟨hc4,h3⟩
   ·refine cg hc4 ?_
    refine zk ?_
    refine ai.seq ?_
    refine ai.block ?_
    obtain⟨Sx,h3⟩:=ab h3
    refine mf [] [] [] [0≤RS,RS<(32:Int),0≤RS,RS<(32:Int)] ⟨Sx.1,Sx.2,Sx.1,Sx.2,trivial⟩ ?_
    rcases ae h3 with⟨hc3,h3⟩|⟨hc3,h3⟩
    ·refine cg hc3 ?_
     refine mf [] [] [] [0≤RS,RS<(32:Int),0≤RS,RS<(32:Int)] ⟨Sx.1,Sx.2,Sx.1,Sx.2,trivial⟩ ?_
     refine ai.ret ?_
     obtain rfl:=Option.some.inj h3
     dsimp only at h
     obtain rfl:=Option.some.inj h
     exact(av [] [some .bool] (cL 64 []) (by kernel_rfl)).1
    ·refine cq hc3 ?_
     refine ai.skip ?_
     refine bN ?_
     change ai _ _ _ _ _
     refine fS ?_
     exact gI [.ak [2,3,5] [18,19]] ⟨_,h3,rfl⟩
   ·refine cq hc4 ?_
    refine ai.exit ?_
    refine ze ?_
    obtain rfl:=Option.some.inj h3
    exact bx [.ak [] []] ⟨_,rfl,rfl⟩
 ·rintro _ ⟨v5,rfl,rfl⟩
  dsimp only at h
  refine aF ?_
  refine ai.ret ?_
  obtain rfl:=Option.some.inj h
  exact(av [] [some .bool] (cL 64 []) (by kernel_rfl)).1
def nu(a0:aO)(a1:Int)(RS:Int)(RU:List Int):Nat→Int→Option Int
 |0,_=>none
 |n2+1,RW=>Option.bind (Option.bind (if(decide (RW<(List.length RU:Int)))=true then(Option.bind (f23 a0 RS) fun y12=>if 0≤RW∧RW<(List.length RU:Int) then(Option.bind (f23 a0 (nth (.int .i64) RU RW)) fun y15=>Option.bind (f22 y12 y15) fun y17=>some (!y17)) else none) else(some false)) fun(o10:Bool)=>if o10=true then(some (.brk ())) else(some (.ret ()))) fun(o9:iQ Unit Unit)=>match o9 with| .brk _v20=>(nu a0 a1 RS RU n2 (al (RW+(1:Int))))| .ret _v21=>(some RW)
def nv(a0:aO)(a1:Int):Nat→Int→(List Int)→Option (List Int)
 |0,_,_=>none
 |n1+1,RS,RU=>if(decide (RS<a1))=true then(Option.bind (Option.bind (nu a0 a1 RS RU (bC) (0:Int)) fun(o8:Int)=>if 0≤o8∧o8≤(List.length RU:Int) then(if(List.length ([]:List Int)+List.length (List.take ((Int.toNat o8) -0) (List.drop 0 RU)))*8≤az then(if(List.length (List.take ((Int.toNat o8) -0) (List.drop 0 RU))+List.length [RS])*8≤az then(if(List.length ((List.take ((Int.toNat o8) -0) (List.drop 0 RU))++[RS])+List.length (List.take ((List.length RU) -(Int.toNat o8)) (List.drop (Int.toNat o8) RU)))*8≤az then(some (((List.take ((Int.toNat o8) -0) (List.drop 0 RU))++[RS])++(List.take ((List.length RU) -(Int.toNat o8)) (List.drop (Int.toNat o8) RU)))) else none) else none) else none) else none) fun(o7:List Int)=>nv a0 a1 n1 (al (RS+(1:Int))) o7) else(some RU)
def f7(a0:aO)(a1:Int):Option ((List Int)×Int):=
 Option.bind (Option.bind (if(decide (a1<(1:Int)))=true then(some true) else(some (decide ((16:Int)<a1)))) fun(o2:Bool)=>if o2=true then(some (.ret (([]:List Int),(200:Int)))) else(some (.brk ()))) fun(o1:iQ Unit ((List Int)×Int))=>match o1 with| .brk _v5=>(Option.bind (nv a0 a1 (bC) (0:Int) ([]:List Int)) fun(o6:List Int)=>some (o6,(0:Int)))| .ret r27=>(some r27)
abbrev q7(a0:aO)(a1:Int)(r:(List Int)×Int):Prop:=Fc Tryz.prog gl 7 [(.val aD a0),(.val (.int .i64) a1)] (aA (List.replicate 92 none) []) (.ret (.bU (.cons (.val (.slice 8 (.int .i64)) r.1) (.cons (.val (.int .i64) r.2) .nil)))) (bz 92 [])
theorem x7(
 a0:aO) (a1:Int) (r:(List Int)×Int) (h:f7 a0 a1=some r):q7 a0 a1 r:=by
 refine Fc.of Tryz.call7 (bW.aG tied Tryz.func7 rfl rfl (σ0:=ao 52 92 [(0,(.val aD a0)),(1,(.val (.int .i64) a1))] []) (by kernel_rfl) ?_)
 unfold f7 at h
 refine aF ?_
 obtain⟨o1,h1,h⟩:=bind_some h
 refine ai.aZ (fun σ'=>∃v5,o1= .brk v5∧σ'=ao 52 92 [(1,(.val (.int .i64) a1)),(2,(.ptr 18 []))] [(18,some (.var aD (.val aD a0)))]) ?_ ?_
 ·obtain⟨o2,h3,h1⟩:=bind_some h1
  refine ai.aZ (fun σ'=>σ'=ao 52 92 [(1,(.val (.int .i64) a1)),(2,(.ptr 18 [])),(14,(.val .bool o2))] [(18,some (.var aD (.val aD a0)))]) ?_ ?_
  ·rcases ae h3 with⟨hg3,h3⟩|⟨hg3,h3⟩
   ·refine kc [] [true] [] [(decide (a1<(1:Int)))=true] ⟨hg3,trivial⟩ ?_
    obtain rfl:=Option.some.inj h3
    exact bx [.ak [1,2,14] [18]] rfl
   ·refine kc [] [false] [] [(decide (a1<(1:Int)))=false] ⟨hg3,trivial⟩ ?_
    obtain rfl:=Option.some.inj h3
    exact bx [.ak [1,2,14] [18]] rfl
  ·rintro _ rfl
   rcases ae h1 with⟨hc4,h1⟩|⟨hc4,h1⟩
   ·refine cg hc4 ?_
    refine aF ?_
    refine ai.ret ?_
    obtain rfl:=Option.some.inj h1
    dsimp only at h
    obtain rfl:=Option.some.inj h
    exact(av [] [some (.slice 8 (.int .i64)),some (.int .i64)] (cL 92 []) (by kernel_rfl)).1
   ·refine cq hc4 ?_
    refine ai.skip ?_
    obtain rfl:=Option.some.inj h1
    exact bx [.ak [1,2] [18]] ⟨_,rfl,rfl⟩
 ·rintro _ ⟨v5,rfl,rfl⟩
  dsimp only at h
  refine aF ?_
  obtain⟨o6,h4,h⟩:=bind_some h
  refine ai.aZ (fun σ'=>σ'=ao 52 92 [(6,(.own 69))] [(69,some (.row 3 8 (.int .i64) o6))]) ?_ ?_
  ·refine aF ?_
   refine ai.block ?_
   refine ai.aV (fun n σ=>∃(RS:Int)(RU:List Int),nv a0 a1 n RS RU=some o6∧σ=ao 52 92 [(1,(.val (.int .i64) a1)),(2,(.ptr 18 [])),(6,(.own 68)),(7,(.val (.int .i64) RS))] [(18,some (.var aD (.val aD a0))),(68,some (.row 3 8 (.int .i64) RU))]) [.ak [1,2,6,7] [18],.ld 6 68 3 8 (.int .i64)] (by kernel_rfl) ⟨_,_,h4,rfl⟩ ?_
   rintro n1 _ ⟨RS,RU,h25,rfl⟩
   cases n1 with
   |zero=>exact absurd h25 (by simp[nv])
   |
    succ n1=>
    unfold nv at h25
    refine ai.seq ?_
    refine aF ?_
    rcases ae h25 with⟨hc26,h25⟩|⟨hc26,h25⟩
    ·refine cg hc26 ?_
     refine zk ?_
     obtain⟨o7,h26,h25⟩:=bind_some h25
     refine ai.aZ (fun σ'=>σ'=ao 52 92 [(1,(.val (.int .i64) a1)),(2,(.ptr 18 [])),(6,(.own 66)),(7,(.val (.int .i64) RS))] [(18,some (.var aD (.val aD a0))),(66,some (.row 3 8 (.int .i64) o7))]) ?_ ?_
     ·refine ai.block ?_
      refine aF ?_
      obtain⟨o8,h36,h26⟩:=bind_some h26
      refine ai.aZ (fun σ'=>σ'=ao 52 92 [(1,(.val (.int .i64) a1)),(2,(.ptr 18 [])),(6,(.own 68)),(7,(.val (.int .i64) RS)),(8,(.val (.int .i64) o8))] [(18,some (.var aD (.val aD a0))),(68,some (.row 3 8 (.int .i64) RU))]) ?_ ?_
      ·refine ai.block ?_
       refine ai.aV (fun n σ=>∃(RW:Int),nu a0 a1 RS RU n RW=some o8∧σ=ao 52 92 [(1,(.val (.int .i64) a1)),(2,(.ptr 18 [])),(6,(.own 68)),(7,(.val (.int .i64) RS)),(8,(.val (.int .i64) RW))] [(18,some (.var aD (.val aD a0))),(68,some (.row 3 8 (.int .i64) RU))]) [.ak [1,2,6,7,8] [18,68]] (by kernel_rfl) ⟨_,h36,rfl⟩ ?_
       rintro n2 _ ⟨RW,h41,rfl⟩
       cases n2 with
       |zero=>exact absurd h41 (by simp[nu])
       |
        succ n2=>
        unfold nu at h41
        obtain⟨o9,h42,h41⟩:=bind_some h41
        refine ai.pc (fun σ'=>∃v20,o9= .brk v20∧σ'=ao 52 92 [(1,(.val (.int .i64) a1)),(2,(.ptr 18 [])),(6,(.own 68)),(7,(.val (.int .i64) RS)),(8,(.val (.int .i64) RW))] [(18,some (.var aD (.val aD a0))),(68,some (.row 3 8 (.int .i64) RU))]) (fun i σ'=>(i=2∧∃Oe,o9= .ret Oe∧σ'=ao 52 92 [(1,(.val (.int .i64) a1)),(2,(.ptr 18 [])),(6,(.own 68)),(7,(.val (.int .i64) RS)),(8,(.val (.int .i64) RW))] [(18,some (.var aD (.val aD a0))),(68,some (.row 3 8 (.int .i64) RU))])) (Cl.loop (Cl.bh (Cl.j (Cl.bh (Cl.j (Cl.loop (Cl.bh (Cl.j Cl.f)))))))) ?_ ?_ ?_
        ·obtain⟨o10,h44,h42⟩:=bind_some h42
         refine ai.aZ (fun σ'=>σ'=ao 52 92 [(1,(.val (.int .i64) a1)),(2,(.ptr 18 [])),(6,(.own 68)),(7,(.val (.int .i64) RS)),(8,(.val (.int .i64) RW)),(36,(.val .bool o10))] [(18,some (.var aD (.val aD a0))),(68,some (.row 3 8 (.int .i64) RU))]) ?_ ?_
         ·rcases ae h44 with⟨hg11,h44⟩|⟨hg11,h44⟩
          ·obtain⟨y12,hy13,h44⟩:=bind_some h44
           obtain⟨hv14,h44⟩:=ab h44
           obtain⟨y15,hy16,h44⟩:=bind_some h44
           obtain⟨y17,hy18,h44⟩:=bind_some h44
           refine jM [⟨(.val aD y12),[],[],[],65⟩,⟨(.val aD y15),[],[],[],65⟩,⟨(.val .bool y17),[],[],[],64⟩] [true] [] [(decide (RW<(List.length RU:Int)))=true,PH a0 RS y12,0≤RW,RW<(List.length RU:Int),PH a0 (nth (.int .i64) RU RW) y15,Km y12 y15 y17] ⟨hg11,Qv _ _ _ hy13,hv14.1,hv14.2,Qv _ _ _ hy16,Ra _ _ _ hy18,trivial⟩ ?_
           obtain rfl:=Option.some.inj h44
           exact bx [.ak [1,2,6,7,8,36] [18,68]] rfl
          ·refine jM [] [false] [] [(decide (RW<(List.length RU:Int)))=false] ⟨hg11,trivial⟩ ?_
           obtain rfl:=Option.some.inj h44
           exact bx [.ak [1,2,6,7,8,36] [18,68]] rfl
         ·rintro _ rfl
          rcases ae h42 with⟨hc19,h42⟩|⟨hc19,h42⟩
          ·refine cg hc19 ?_
           refine ai.skip ?_
           obtain rfl:=Option.some.inj h42
           exact kD.mk [.ak [1,2,6,7,8] [18,68]] (by kernel_rfl) ⟨_,rfl,rfl⟩
          ·refine cq hc19 ?_
           refine ai.exit ?_
           obtain rfl:=Option.some.inj h42
           exact kD.ex [.ak [1,2,6,7,8] [18,68]] (by kernel_rfl) ⟨rfl,_,rfl,rfl⟩
        ·rintro _ _ ⟨rfl,Oe,rfl,rfl⟩
         ·dsimp only at h41
          refine lE ?_
          refine bE ?_
          obtain rfl:=Option.some.inj h41
          exact bx [.ak [1,2,6,7,8] [18,68]] rfl
        ·rintro _ ⟨v20,rfl,rfl⟩
         dsimp only at h41
         refine ai.block ?_
         refine fS ?_
         refine bN ?_
         exact gI [.ak [1,2,6,7,8] [18,68]] ⟨_,h41,rfl⟩
      ·rintro _ rfl
       obtain⟨hv22,h26⟩:=ab h26
       obtain⟨hv23,h26⟩:=ab h26
       obtain⟨hv24,h26⟩:=ab h26
       obtain⟨hv25,h26⟩:=ab h26
       refine jM [] [] [] [0≤o8,o8≤(List.length RU:Int),(List.length ([]:List Int)+List.length (List.take ((Int.toNat o8) -0) (List.drop 0 RU)))*8≤az,(List.length (List.take ((Int.toNat o8) -0) (List.drop 0 RU))+List.length [RS])*8≤az,0≤o8,o8≤(List.length RU:Int),(List.length ((List.take ((Int.toNat o8) -0) (List.drop 0 RU))++[RS])+List.length (List.take ((List.length RU) -(Int.toNat o8)) (List.drop (Int.toNat o8) RU)))*8≤az] ⟨hv22.1,hv22.2,hv23,hv24,hv22.1,hv22.2,hv25,trivial⟩ ?_
       refine bN ?_
       obtain rfl:=Option.some.inj h26
       exact bx [.ak [1,2,6,7] [18,66]] rfl
     ·rintro _ rfl
      refine fS ?_
      exact gI [.ak [1,2,6,7] [18,66],.oP 66 68] ⟨_,_,h25,rfl⟩
    ·refine cq hc26 ?_
     refine ai.exit ?_
     refine ze ?_
     obtain rfl:=Option.some.inj h25
     exact bx [.ak [6] [68],.oP 68 69] rfl
  ·rintro _ rfl
   refine aF ?_
   refine ai.ret ?_
   obtain rfl:=Option.some.inj h
   exact(av [.freeze 69 (.slice 8 (.int .i64))] [some (.slice 8 (.int .i64)),some (.int .i64)] (cL 92 []) (by kernel_rfl)).1
def ny(a0:List cY):Nat→Int→(List (Int×Int))→Option (List (Int×Int))
 |0,_,_=>none
 |n1+1,RS,RU=>if(decide (RS<(List.length a0:Int)))=true then(if 0≤RS∧RS<(List.length a0:Int) then(if List.length RU+1≤az then(ny a0 n1 (al (RS+(1:Int))) (eo (.int .i64) ((nth aY a0 RS).1) (al ((fO (.int .i64) (.int .i64) ((nth aY a0 RS).1) RU)+(1:Int))) RU)) else none) else none) else(some RU)
def nz(y5:List (Int×Int))(y7:List Int):Nat→Int→(List Int)→Option (List Int)
 |0,_,_=>none
 |n2+1,RW,R4=>if(decide (RW<(List.length y7:Int)))=true then(if 0≤RW∧RW<(List.length y7:Int) then(if(List.length R4+List.length [fO (.int .i64) (.int .i64) (nth (.int .i64) y7 RW) y5])*8≤az then(nz y5 y7 n2 (al (RW+(1:Int))) (R4++[fO (.int .i64) (.int .i64) (nth (.int .i64) y7 RW) y5])) else none) else none) else(some R4)
def f8(a0:List cY):Option ((List Int)×(List Int)):=
 Option.bind (ny a0 (List.length a0+1) (0:Int) ([]:List (Int×Int))) fun(o1:List (Int×Int))=>Option.bind (qV o1) fun y5=>Option.bind (uP y5) fun y7=>Option.bind (nz y5 y7 (List.length y7+1) (0:Int) ([]:List Int)) fun(o9:List Int)=>some (y7,o9)
abbrev q8(a0:List cY)(r:(List Int)×(List Int)):Prop:=Fc Tryz.prog gl 8 [(.val (.slice 72 aY) a0)] (aA (List.replicate 80 none) []) (.ret (.bU (.cons (.val (.slice 8 (.int .i64)) r.1) (.cons (.val (.slice 8 (.int .i64)) r.2) .nil)))) (bz 80 [])
theorem x8(a0:List cY)(r:(List Int)×(List Int))(h:f8 a0=some r):q8 a0 r:=by
 refine Fc.of Tryz.call8 (bW.aG tied Tryz.func8 rfl rfl (σ0:=ao 40 80 [(0,(.val (.slice 72 aY) a0))] []) (by kernel_rfl) ?_)
 unfold f8 at h
 refine aF ?_
 refine aF ?_
 obtain⟨o1,h1,h⟩:=bind_some h
 refine ai.aZ (fun σ'=>σ'=ao 40 80 [(3,.dS),(4,(.mp 25))] [(25,some (.map (.int .i64) (.int .i64) o1))]) ?_ ?_
 ·refine aF ?_
  refine ai.block ?_
  refine ai.aV (fun n σ=>∃(RS:Int)(RU:List (Int×Int)),ny a0 n RS RU=some o1∧σ=ao 40 80 [(3,.dS),(4,(.mp 25)),(10,(.val (.slice 72 aY) a0)),(11,(.val (.int .i64) (List.length a0:Int))),(12,(.val (.int .i64) RS))] [(25,some (.map (.int .i64) (.int .i64) RU))]) [.ak [3,4,10,11,12] [25]] (by kernel_rfl) ⟨_,_,h1,rfl⟩ ?_
  rintro n1 _ ⟨RS,RU,h3,rfl⟩
  cases n1 with
  |zero=>exact absurd h3 (by simp[ny])
  |
   succ n1=>
   unfold ny at h3
   refine aF ?_
   refine ai.seq ?_
   rcases ae h3 with⟨hc4,h3⟩|⟨hc4,h3⟩
   ·refine cg hc4 ?_
    refine zk ?_
    refine ai.seq ?_
    refine ai.block ?_
    obtain⟨Sx,h3⟩:=ab h3
    refine cH [] [] [] [0≤RS,RS<(List.length a0:Int)] ⟨Sx.1,Sx.2,trivial⟩ ?_
    obtain⟨hv3,h3⟩:=ab h3
    refine kc [] [] [] [fH Tryz.prog G 40 3 (.int .i64)=true,fH Tryz.prog G 40 3 (.int .i64)=true,List.length RU+1≤az] ⟨sy,sy,hv3,trivial⟩ ?_
    refine bN ?_
    change ai _ _ _ _ _
    refine fS ?_
    exact gI [.ak [3,4,10,11,12] [25]] ⟨_,_,h3,rfl⟩
   ·refine cq hc4 ?_
    refine ai.exit ?_
    refine ze ?_
    obtain rfl:=Option.some.inj h3
    exact bx [.ak [3,4] [25]] rfl
 ·rintro _ rfl
  obtain⟨y5,hy6,h⟩:=bind_some h
  obtain⟨y7,hy8,h⟩:=bind_some h
  refine cH [⟨(.func (.func 50) .nil (.cons (.ptr 17 []) .nil)),[(0,25)],[(17,39)],[(0,(.map (.int .i64) (.int .i64) y5)),(17,(.var (.au .map) (.mp 0)))],44⟩,⟨(.own 23),[(0,39),(1,25)],[(23,40)],[(0,(.var (.au .map) (.mp 1))),(1,(.map (.int .i64) (.int .i64) y5)),(23,(.row 3 8 (.int .i64) y7))],49⟩] [] [] [yu o1 y5,Fc Tryz.prog gl 24 [(.func (.func 50) .nil (.cons (.ptr 0 []) .nil))] (aA (List.replicate 49 none) [(0,some (.var (.au .map) (.mp 1))),(1,some (.map (.int .i64) (.int .i64) y5))]) (.ret (.own 23)) (bz 49 [(0,(.var (.au .map) (.mp 1))),(1,(.map (.int .i64) (.int .i64) y5)),(23,(.row 3 8 (.int .i64) y7))])] ⟨C2 _ _ hy6,C3 _ _ hy8,trivial⟩ ?_
  obtain⟨o9,h4,h⟩:=bind_some h
  refine ai.aZ (fun σ'=>σ'=ao 40 80 [(2,(.own 40)),(3,(.own 57))] [(40,some (.row 3 8 (.int .i64) y7)),(57,some (.row 3 8 (.int .i64) o9))]) ?_ ?_
  ·refine aF ?_
   refine ai.block ?_
   refine ai.aV (fun n σ=>∃(RW:Int)(R4:List Int),nz y5 y7 n RW R4=some o9∧σ=ao 40 80 [(2,(.own 40)),(3,(.own 56)),(4,(.mp 25)),(25,(.own 40)),(26,(.val (.int .i64) (List.length y7:Int))),(27,(.val (.int .i64) RW))] [(25,some (.map (.int .i64) (.int .i64) y5)),(40,some (.row 3 8 (.int .i64) y7)),(56,some (.row 3 8 (.int .i64) R4))]) [.ak [2,3,4,25,26,27] [25,40],.ld 3 56 3 8 (.int .i64)] (by kernel_rfl) ⟨_,_,h4,rfl⟩ ?_
   rintro n2 _ ⟨RW,R4,h6,rfl⟩
   cases n2 with
   |zero=>exact absurd h6 (by simp[nz])
   |
    succ n2=>
    unfold nz at h6
    refine aF ?_
    refine ai.seq ?_
    rcases ae h6 with⟨SP,h6⟩|⟨SP,h6⟩
    ·refine cg SP ?_
     refine zk ?_
     refine ai.seq ?_
     refine ai.block ?_
     obtain⟨Sv,h6⟩:=ab h6
     refine cH [] [] [] [0≤RW,RW<(List.length y7:Int)] ⟨Sv.1,Sv.2,trivial⟩ ?_
     obtain⟨SS,h6⟩:=ab h6
     refine kc [] [] [] [fH Tryz.prog G 40 3 (.int .i64)=true,(List.length R4+List.length [fO (.int .i64) (.int .i64) (nth (.int .i64) y7 RW) y5])*8≤az] ⟨sy,SS,trivial⟩ ?_
     refine bN ?_
     change ai _ _ _ _ _
     refine fS ?_
     exact gI [.ak [2,3,4,25,26,27] [25,40,52],.oP 52 56] ⟨_,_,h6,rfl⟩
    ·refine cq SP ?_
     refine ai.exit ?_
     refine ze ?_
     obtain rfl:=Option.some.inj h6
     exact bx [.ak [2,3] [40,56],.oP 56 57] rfl
  ·rintro _ rfl
   refine aF ?_
   refine ai.ret ?_
   obtain rfl:=Option.some.inj h
   exact(av [.freeze 40 (.slice 8 (.int .i64)),.freeze 57 (.slice 8 (.int .i64))] [some (.slice 8 (.int .i64)),some (.slice 8 (.int .i64))] (cL 80 []) (by kernel_rfl)).1
def lL(a0:List cY)(RS:Int)(RU:List Int)(RX:List Int):Nat→Int→Option Int
 |0,_=>none
 |n2+1,RW=>Option.bind (Option.bind (if(decide (RW<(List.length RU:Int)))=true then(if 0≤RW∧RW<(List.length RU:Int) then(if 0≤RS∧RS<(List.length a0:Int) then(some (decide ((nth (.int .i64) RU RW)<((nth aY a0 RS).1)))) else none) else none) else(some false)) fun(o5:Bool)=>if o5=true then(some (.brk ())) else(some (.ret ()))) fun(o4:iQ Unit Unit)=>match o4 with| .brk _v10=>(lL a0 RS RU RX n2 (al (RW+(1:Int))))| .ret _v11=>(some RW)
def kb(a0:List cY):Nat→Int→(List Int)→(List Int)→Option ((List Int)×(List Int))
 |0,_,_,_=>none
 |n1+1,RS,RU,RX=>if(decide (RS<(List.length a0:Int)))=true then(Option.bind (Option.bind (lL a0 RS RU RX (bC) (0:Int)) fun(o3:Int)=>Option.bind (Option.bind (if(decide (o3<(List.length RU:Int)))=true then(if 0≤o3∧o3<(List.length RU:Int) then(if 0≤RS∧RS<(List.length a0:Int) then(some (decide ((nth (.int .i64) RU o3)=((nth aY a0 RS).1)))) else none) else none) else(some false)) fun(o13:Bool)=>if o13=true then(if 0≤o3∧o3<(List.length RX:Int) then(some (.ret ())) else none) else(some (.brk ()))) fun(o12:iQ Unit Unit)=>match o12 with| .brk _v19=>(if 0≤o3∧o3≤(List.length RU:Int) then(if(List.length ([]:List Int)+List.length (List.take ((Int.toNat o3) -0) (List.drop 0 RU)))*8≤az then(if 0≤RS∧RS<(List.length a0:Int) then(if(List.length (List.take ((Int.toNat o3) -0) (List.drop 0 RU))+List.length [(nth aY a0 RS).1])*8≤az then(if(List.length ((List.take ((Int.toNat o3) -0) (List.drop 0 RU))++[(nth aY a0 RS).1])+List.length (List.take ((List.length RU) -(Int.toNat o3)) (List.drop (Int.toNat o3) RU)))*8≤az then(if o3≤(List.length RX:Int) then(if(List.length ([]:List Int)+List.length (List.take ((Int.toNat o3) -0) (List.drop 0 RX)))*8≤az then(if(List.length (List.take ((Int.toNat o3) -0) (List.drop 0 RX))+List.length [(1:Int)])*8≤az then(if(List.length ((List.take ((Int.toNat o3) -0) (List.drop 0 RX))++[(1:Int)])+List.length (List.take ((List.length RX) -(Int.toNat o3)) (List.drop (Int.toNat o3) RX)))*8≤az then(some (((List.take ((Int.toNat o3) -0) (List.drop 0 RU))++[(nth aY a0 RS).1])++(List.take ((List.length RU) -(Int.toNat o3)) (List.drop (Int.toNat o3) RU)),((List.take ((Int.toNat o3) -0) (List.drop 0 RX))++[(1:Int)])++(List.take ((List.length RX) -(Int.toNat o3)) (List.drop (Int.toNat o3) RX)))) else none) else none) else none) else none) else none) else none) else none) else none) else none)| .ret _v29=>(some (RU,List.set RX (Int.toNat o3) (al ((nth (.int .i64) RX o3)+(1:Int)))))) fun(o2:(List Int)×(List Int))=>kb a0 n1 (al (RS+(1:Int))) o2.1 o2.2) else(some (RU,RX))
def f9(a0:List cY):Option ((List Int)×(List Int)):=
 Option.bind (kb a0 (bC) (0:Int) ([]:List Int) ([]:List Int)) fun(o1:(List Int)×(List Int))=>some (o1.1,o1.2)
abbrev q9(a0:List cY)(r:(List Int)×(List Int)):Prop:=Fc Tryz.prog gl 9 [(.val (.slice 72 aY) a0)] (aA (List.replicate 123 none) []) (.ret (.bU (.cons (.val (.slice 8 (.int .i64)) r.1) (.cons (.val (.slice 8 (.int .i64)) r.2) .nil)))) (bz 123 [])
theorem x9(
 a0:List cY) (r:(List Int)×(List Int)) (h:f9 a0=some r):q9 a0 r:=by
 refine Fc.of Tryz.call9 (bW.aG tied Tryz.func9 rfl rfl (σ0:=ao 83 123 [(0,(.val (.slice 72 aY) a0))] []) (by kernel_rfl) ?_)
 unfold f9 at h
 refine aF ?_
 refine aF ?_
 obtain⟨o1,h1,h⟩:=bind_some h
 refine ai.aZ (fun σ'=>σ'=ao 83 123 [(4,(.own 105)),(5,(.own 106))] [(105,some (.row 3 8 (.int .i64) o1.1)),(106,some (.row 3 8 (.int .i64) o1.2))]) ?_ ?_
 ·refine aF ?_
  refine ai.block ?_
  refine ai.aV (fun n σ=>∃(RS:Int)(RU:List Int)(RX:List Int),kb a0 n RS RU RX=some o1∧σ=ao 83 123 [(0,(.val (.slice 72 aY) a0)),(4,(.own 99)),(5,(.own 100)),(6,(.val (.int .i64) RS))] [(99,some (.row 3 8 (.int .i64) RU)),(100,some (.row 3 8 (.int .i64) RX))]) [.ak [0,4,5,6] [],.ld 4 99 3 8 (.int .i64),.ld 5 100 3 8 (.int .i64)] (by kernel_rfl) ⟨_,_,_,h1,rfl⟩ ?_
  rintro n1 _ ⟨RS,RU,RX,h28,rfl⟩
  cases n1 with
  |zero=>exact absurd h28 (by simp[kb])
  |
   succ n1=>
   unfold kb at h28
   refine ai.seq ?_
   refine aF ?_
   rcases ae h28 with⟨hc30,h28⟩|⟨hc30,h28⟩
   ·refine cg hc30 ?_
    refine zk ?_
    obtain⟨o2,h29,h28⟩:=bind_some h28
    refine ai.aZ (fun σ'=>σ'=ao 83 123 [(0,(.val (.slice 72 aY) a0)),(4,(.own 101)),(5,(.own 102)),(6,(.val (.int .i64) RS))] [(101,some (.row 3 8 (.int .i64) o2.1)),(102,some (.row 3 8 (.int .i64) o2.2))]) ?_ ?_
    ·refine ai.block ?_
     refine aF ?_
     obtain⟨o3,h42,h29⟩:=bind_some h29
     refine ai.aZ (fun σ'=>σ'=ao 83 123 [(0,(.val (.slice 72 aY) a0)),(4,(.own 99)),(5,(.own 100)),(6,(.val (.int .i64) RS)),(7,(.val (.int .i64) o3))] [(99,some (.row 3 8 (.int .i64) RU)),(100,some (.row 3 8 (.int .i64) RX))]) ?_ ?_
     ·refine ai.block ?_
      refine ai.aV (fun n σ=>∃(RW:Int),lL a0 RS RU RX n RW=some o3∧σ=ao 83 123 [(0,(.val (.slice 72 aY) a0)),(4,(.own 99)),(5,(.own 100)),(6,(.val (.int .i64) RS)),(7,(.val (.int .i64) RW))] [(99,some (.row 3 8 (.int .i64) RU)),(100,some (.row 3 8 (.int .i64) RX))]) [.ak [0,4,5,6,7] [99,100]] (by kernel_rfl) ⟨_,h42,rfl⟩ ?_
      rintro n2 _ ⟨RW,h47,rfl⟩
      cases n2 with
      |zero=>exact absurd h47 (by simp[lL])
      |
       succ n2=>
       unfold lL at h47
       obtain⟨o4,h48,h47⟩:=bind_some h47
       refine ai.pc (fun σ'=>∃v10,o4= .brk v10∧σ'=ao 83 123 [(0,(.val (.slice 72 aY) a0)),(4,(.own 99)),(5,(.own 100)),(6,(.val (.int .i64) RS)),(7,(.val (.int .i64) RW))] [(99,some (.row 3 8 (.int .i64) RU)),(100,some (.row 3 8 (.int .i64) RX))]) (fun i σ'=>(i=2∧∃v11,o4= .ret v11∧σ'=ao 83 123 [(0,(.val (.slice 72 aY) a0)),(4,(.own 99)),(5,(.own 100)),(6,(.val (.int .i64) RS)),(7,(.val (.int .i64) RW))] [(99,some (.row 3 8 (.int .i64) RU)),(100,some (.row 3 8 (.int .i64) RX))])) (Cl.loop (Cl.bh (Cl.j (Cl.bh (Cl.j (Cl.loop (Cl.bh (Cl.j Cl.f)))))))) ?_ ?_ ?_
       ·obtain⟨o5,h50,h48⟩:=bind_some h48
        refine ai.aZ (fun σ'=>σ'=ao 83 123 [(0,(.val (.slice 72 aY) a0)),(4,(.own 99)),(5,(.own 100)),(6,(.val (.int .i64) RS)),(7,(.val (.int .i64) RW)),(29,(.val .bool o5))] [(99,some (.row 3 8 (.int .i64) RU)),(100,some (.row 3 8 (.int .i64) RX))]) ?_ ?_
        ·rcases ae h50 with⟨hg6,h50⟩|⟨hg6,h50⟩
         ·obtain⟨hv7,h50⟩:=ab h50
          obtain⟨hv8,h50⟩:=ab h50
          refine jM [] [true] [] [(decide (RW<(List.length RU:Int)))=true,0≤RW,RW<(List.length RU:Int),0≤RS,RS<(List.length a0:Int)] ⟨hg6,hv7.1,hv7.2,hv8.1,hv8.2,trivial⟩ ?_
          obtain rfl:=Option.some.inj h50
          exact bx [.ak [0,4,5,6,7,29] [99,100]] rfl
         ·refine jM [] [false] [] [(decide (RW<(List.length RU:Int)))=false] ⟨hg6,trivial⟩ ?_
          obtain rfl:=Option.some.inj h50
          exact bx [.ak [0,4,5,6,7,29] [99,100]] rfl
        ·rintro _ rfl
         rcases ae h48 with⟨hc9,h48⟩|⟨hc9,h48⟩
         ·refine cg hc9 ?_
          refine ai.skip ?_
          obtain rfl:=Option.some.inj h48
          exact kD.mk [.ak [0,4,5,6,7] [99,100]] (by kernel_rfl) ⟨_,rfl,rfl⟩
         ·refine cq hc9 ?_
          refine ai.exit ?_
          obtain rfl:=Option.some.inj h48
          exact kD.ex [.ak [0,4,5,6,7] [99,100]] (by kernel_rfl) ⟨rfl,_,rfl,rfl⟩
       ·rintro _ _ ⟨rfl,v11,rfl,rfl⟩
        ·dsimp only at h47
         refine lE ?_
         refine bE ?_
         obtain rfl:=Option.some.inj h47
         exact bx [.ak [0,4,5,6,7] [99,100]] rfl
       ·rintro _ ⟨v10,rfl,rfl⟩
        dsimp only at h47
        refine ai.block ?_
        refine fS ?_
        refine bN ?_
        exact gI [.ak [0,4,5,6,7] [99,100]] ⟨_,h47,rfl⟩
     ·rintro _ rfl
      obtain⟨o12,h51,h29⟩:=bind_some h29
      refine ai.pc (fun σ'=>∃v19,o12= .brk v19∧σ'=ao 83 123 [(0,(.val (.slice 72 aY) a0)),(4,(.own 99)),(5,(.own 100)),(6,(.val (.int .i64) RS)),(7,(.val (.int .i64) o3))] [(99,some (.row 3 8 (.int .i64) RU)),(100,some (.row 3 8 (.int .i64) RX))]) (fun i σ'=>(i=1∧∃v29,o12= .ret v29∧σ'=ao 83 123 [(0,(.val (.slice 72 aY) a0)),(4,(.own 99)),(5,(.own 100)),(6,(.val (.int .i64) RS))] [(99,some (.row 3 8 (.int .i64) RU)),(100,some (.row 3 8 (.int .i64) (List.set RX (Int.toNat o3) (al ((nth (.int .i64) RX o3)+(1:Int))))))])) (Cl.bh (Cl.j (Cl.loop (Cl.bh (Cl.j Cl.f))))) ?_ ?_ ?_
      ·obtain⟨o13,h53,h51⟩:=bind_some h51
       refine ai.aZ (fun σ'=>σ'=ao 83 123 [(0,(.val (.slice 72 aY) a0)),(4,(.own 99)),(5,(.own 100)),(6,(.val (.int .i64) RS)),(7,(.val (.int .i64) o3)),(47,(.val .bool o13))] [(99,some (.row 3 8 (.int .i64) RU)),(100,some (.row 3 8 (.int .i64) RX))]) ?_ ?_
       ·rcases ae h53 with⟨hg14,h53⟩|⟨hg14,h53⟩
        ·obtain⟨hv15,h53⟩:=ab h53
         obtain⟨hv16,h53⟩:=ab h53
         refine jM [] [true] [] [(decide (o3<(List.length RU:Int)))=true,0≤o3,o3<(List.length RU:Int),0≤RS,RS<(List.length a0:Int)] ⟨hg14,hv15.1,hv15.2,hv16.1,hv16.2,trivial⟩ ?_
         obtain rfl:=Option.some.inj h53
         exact bx [.ak [0,4,5,6,7,47] [99,100]] rfl
        ·refine jM [] [false] [] [(decide (o3<(List.length RU:Int)))=false] ⟨hg14,trivial⟩ ?_
         obtain rfl:=Option.some.inj h53
         exact bx [.ak [0,4,5,6,7,47] [99,100]] rfl
       ·rintro _ rfl
        rcases ae h51 with⟨hc18,h51⟩|⟨hc18,h51⟩
        ·refine cg hc18 ?_
         obtain⟨hv17,h51⟩:=ab h51
         refine cH [] [] [] [0≤o3,o3<(List.length RX:Int),0≤o3,o3<(List.length RX:Int)] ⟨hv17.1,hv17.2,hv17.1,hv17.2,trivial⟩ ?_
         refine ai.exit ?_
         obtain rfl:=Option.some.inj h51
         exact kD.ex [.ak [0,4,5,6] [99,100]] (by kernel_rfl) ⟨rfl,_,rfl,rfl⟩
        ·refine cq hc18 ?_
         refine ai.skip ?_
         obtain rfl:=Option.some.inj h51
         exact kD.mk [.ak [0,4,5,6,7] [99,100]] (by kernel_rfl) ⟨_,rfl,rfl⟩
      ·rintro _ _ ⟨rfl,v29,rfl,rfl⟩
       ·dsimp only at h29
        refine bE ?_
        obtain rfl:=Option.some.inj h29
        exact bx [.ak [0,4,5,6] [99,100],.oP 99 101,.oP 100 102] rfl
      ·rintro _ ⟨v19,rfl,rfl⟩
       dsimp only at h29
       obtain⟨hv20,h29⟩:=ab h29
       obtain⟨hv21,h29⟩:=ab h29
       obtain⟨hv22,h29⟩:=ab h29
       obtain⟨hv23,h29⟩:=ab h29
       obtain⟨hv24,h29⟩:=ab h29
       refine mf [] [] [] [0≤o3,o3≤(List.length RU:Int),(List.length ([]:List Int)+List.length (List.take ((Int.toNat o3) -0) (List.drop 0 RU)))*8≤az,0≤RS,RS<(List.length a0:Int),(List.length (List.take ((Int.toNat o3) -0) (List.drop 0 RU))+List.length [(nth aY a0 RS).1])*8≤az,0≤o3,o3≤(List.length RU:Int),(List.length ((List.take ((Int.toNat o3) -0) (List.drop 0 RU))++[(nth aY a0 RS).1])+List.length (List.take ((List.length RU) -(Int.toNat o3)) (List.drop (Int.toNat o3) RU)))*8≤az] ⟨hv20.1,hv20.2,hv21,hv22.1,hv22.2,hv23,hv20.1,hv20.2,hv24,trivial⟩ ?_
       obtain⟨hv25,h29⟩:=ab h29
       obtain⟨hv26,h29⟩:=ab h29
       obtain⟨hv27,h29⟩:=ab h29
       obtain⟨hv28,h29⟩:=ab h29
       refine jM [] [] [] [0≤o3,o3≤(List.length RX:Int),(List.length ([]:List Int)+List.length (List.take ((Int.toNat o3) -0) (List.drop 0 RX)))*8≤az,(List.length (List.take ((Int.toNat o3) -0) (List.drop 0 RX))+List.length [(1:Int)])*8≤az,0≤o3,o3≤(List.length RX:Int),(List.length ((List.take ((Int.toNat o3) -0) (List.drop 0 RX))++[(1:Int)])+List.length (List.take ((List.length RX) -(Int.toNat o3)) (List.drop (Int.toNat o3) RX)))*8≤az] ⟨hv20.1,hv25,hv26,hv27,hv20.1,hv25,hv28,trivial⟩ ?_
       refine bN ?_
       obtain rfl:=Option.some.inj h29
       exact bx [.ak [0,4,5,6] [85,96],.oP 85 101,.oP 96 102] rfl
    ·rintro _ rfl
     refine fS ?_
     exact gI [.ak [0,4,5,6] [101,102],.oP 101 99,.oP 102 100] ⟨_,_,_,h28,rfl⟩
   ·refine cq hc30 ?_
    refine ai.exit ?_
    refine ze ?_
    obtain rfl:=Option.some.inj h28
    exact bx [.ak [4,5] [99,100],.oP 99 105,.oP 100 106] rfl
 ·rintro _ rfl
  refine aF ?_
  refine ai.ret ?_
  obtain rfl:=Option.some.inj h
  exact(av [.freeze 105 (.slice 8 (.int .i64)),.freeze 106 (.slice 8 (.int .i64))] [some (.slice 8 (.int .i64)),some (.slice 8 (.int .i64))] (cL 123 []) (by kernel_rfl)).1
def vq(a0:List cY):Option (List cY):=if(List.length ([]:List cY)+List.length a0)*72≤az then some a0 else none
theorem J6(a0:List cY)(r:List cY)(h:vq a0=some r):Fc Tryz.prog gl 26 [(.val (.slice 72 aY) a0)] (aA (List.replicate 48 none) []) (.ret (.own 23)) (bz 48 [(23,(.row 41 72 aY r))]):=by
 refine Fc.of Tryz.call26 (bW.aG tied Tryz.func26 rfl rfl (σ0:=ao 8 48 [(0,(.val (.slice 72 aY) a0))] []) (by kernel_rfl) ?_)
 unfold vq at h
 obtain⟨hv,h⟩:=ab h
 obtain rfl:=Option.some.inj h
 refine aF ?_
 refine ai.seq ?_
 refine ai.FE (.tmp 0) 3 4 24 24 41 72 aY a0 rfl rfl rfl rfl rfl rfl (by kernel_rfl) KJ rfl ?_
 intro b hb
 cases b with
 |
  true=>
  have hx:=hb rfl
  subst hx
  refine ai.Iy (b:=true) (by kernel_rfl) rfl ?_
  refine aF ?_
  refine ai.ret ?_
  exact(av [.ak [2] [],.ld 2 23 41 72 aY] [none] (cL 48 [23]) (by kernel_rfl)).1
 |
  false=>
  refine ai.Db (b:=false) (by kernel_rfl) rfl ?_
  refine zk ?_
  refine cH [] [] [] [(List.length ([]:List cY)+List.length a0)*72≤az] ⟨hv,trivial⟩ ?_
  refine ai.ret ?_
  exact(av [.ak [2] [23]] [none] (cL 48 [23]) (by kernel_rfl)).1
abbrev xA(a0:List cY)(y8:List cY)(a1:Int)(a2:Int):List cY:=List.set y8 (Int.toNat a1) ((nth aY a0 a2).1,(nth aY y8 a1).2)
abbrev Ag(a0:List cY)(y8:List cY)(a1:Int)(a2:Int):List cY:=List.set (xA a0 y8 a1 a2) (Int.toNat a1) ((nth aY (xA a0 y8 a1 a2) a1).1,(((nth aY a0 a2).2).1,((nth aY (xA a0 y8 a1 a2) a1).2).2))
abbrev xB(a0:List cY)(y8:List cY)(a1:Int)(a2:Int):List cY:=List.set (Ag a0 y8 a1 a2) (Int.toNat a2) ((nth aY a0 a1).1,(nth aY (Ag a0 y8 a1 a2) a2).2)
def f10(a0:List cY)(a1:Int)(a2:Int):Option ((List cY)×Int):=
 Option.bind (Option.bind (if(decide (a1<(0:Int)))=true then(some true) else(if(decide ((List.length a0:Int)≤a1))=true then(some true) else(if(decide (a2<(0:Int)))=true then(some true) else(some (decide ((List.length a0:Int)≤a2)))))) fun(o2:Bool)=>if o2=true then(some (.ret (([]:List cY),(1:Int)))) else(some (.brk ()))) fun(o1:iQ Unit ((List cY)×Int))=>match o1 with| .brk _v7=>(Option.bind (vq a0) fun y8=>if 0≤a2∧a2<(List.length a0:Int) then(if 0≤a1∧a1<(List.length a0:Int) then(if a1<(List.length y8:Int) then(if a1<(List.length (xA a0 y8 a1 a2):Int) then(if a2<(List.length (Ag a0 y8 a1 a2):Int) then(if a2<(List.length (xB a0 y8 a1 a2):Int) then(some (List.set (xB a0 y8 a1 a2) (Int.toNat a2) ((nth aY (xB a0 y8 a1 a2) a2).1,(((nth aY a0 a1).2).1,((nth aY (xB a0 y8 a1 a2) a2).2).2)),(0:Int))) else none) else none) else none) else none) else none) else none)| .ret r16=>(some r16)
abbrev PJ(a0:List cY)(a1:Int)(a2:Int)(r:(List cY)×Int):Prop:=Fc Tryz.prog gl 10 [(.val (.slice 72 aY) a0),(.val (.int .i64) a1),(.val (.int .i64) a2)] (aA (List.replicate 105 none) []) (.ret (.bU (.cons (.val (.slice 72 aY) r.1) (.cons (.val (.int .i64) r.2) .nil)))) (bz 105 [])
theorem tJ(a0:List cY)(a1:Int)(a2:Int)(r:(List cY)×Int)(h:f10 a0 a1 a2=some r):PJ a0 a1 a2 r:=by
 refine Fc.of Tryz.call10 (bW.aG tied Tryz.func10 rfl rfl (σ0:=ao 65 105 [(0,(.val (.slice 72 aY) a0)),(1,(.val (.int .i64) a1)),(2,(.val (.int .i64) a2))] []) (by kernel_rfl) ?_)
 unfold f10 at h
 refine aF ?_
 obtain⟨o1,h1,h⟩:=bind_some h
 refine ai.aZ (fun σ'=>∃v7,o1= .brk v7∧σ'=ao 65 105 [(0,(.val (.slice 72 aY) a0)),(1,(.val (.int .i64) a1)),(2,(.val (.int .i64) a2))] []) ?_ ?_
 ·obtain⟨o2,h3,h1⟩:=bind_some h1
  refine ai.aZ (fun σ'=>σ'=ao 65 105 [(0,(.val (.slice 72 aY) a0)),(1,(.val (.int .i64) a1)),(2,(.val (.int .i64) a2)),(25,(.val .bool o2))] []) ?_ ?_
  ·rcases ae h3 with⟨hg3,h3⟩|⟨hg3,h3⟩
   ·refine kc [] [true,true,true] [] [(decide (a1<(0:Int)))=true,true=true,true=true] ⟨hg3,rfl,rfl,trivial⟩ ?_
    obtain rfl:=Option.some.inj h3
    exact bx [.ak [0,1,2,25] []] rfl
   ·rcases ae h3 with⟨hg4,h3⟩|⟨hg4,h3⟩
    ·refine kc [] [false,true,true] [] [(decide (a1<(0:Int)))=false,(decide ((List.length a0:Int)≤a1))=true,true=true] ⟨hg3,hg4,rfl,trivial⟩ ?_
     obtain rfl:=Option.some.inj h3
     exact bx [.ak [0,1,2,25] []] rfl
    ·rcases ae h3 with⟨hg5,h3⟩|⟨hg5,h3⟩
     ·refine kc [] [false,false,true] [] [(decide (a1<(0:Int)))=false,(decide ((List.length a0:Int)≤a1))=false,(decide (a2<(0:Int)))=true] ⟨hg3,hg4,hg5,trivial⟩ ?_
      obtain rfl:=Option.some.inj h3
      exact bx [.ak [0,1,2,25] []] rfl
     ·refine kc [] [false,false,false] [] [(decide (a1<(0:Int)))=false,(decide ((List.length a0:Int)≤a1))=false,(decide (a2<(0:Int)))=false] ⟨hg3,hg4,hg5,trivial⟩ ?_
      obtain rfl:=Option.some.inj h3
      exact bx [.ak [0,1,2,25] []] rfl
  ·rintro _ rfl
   rcases ae h1 with⟨hc6,h1⟩|⟨hc6,h1⟩
   ·refine cg hc6 ?_
    refine aF ?_
    refine ai.ret ?_
    obtain rfl:=Option.some.inj h1
    dsimp only at h
    obtain rfl:=Option.some.inj h
    exact(av [] [some (.slice 72 aY),some (.int .i64)] (cL 105 []) (by kernel_rfl)).1
   ·refine cq hc6 ?_
    refine ai.skip ?_
    obtain rfl:=Option.some.inj h1
    exact bx [.ak [0,1,2] []] ⟨_,rfl,rfl⟩
 ·rintro _ ⟨v7,rfl,rfl⟩
  dsimp only at h
  obtain⟨y8,hy9,h⟩:=bind_some h
  refine cH [⟨(.own 23),[],[(23,43)],[(23,(.row 41 72 aY y8))],48⟩] [] [] [Fc Tryz.prog gl 26 [(.val (.slice 72 aY) a0)] (aA (List.replicate 48 none) []) (.ret (.own 23)) (bz 48 [(23,(.row 41 72 aY y8))])] ⟨J6 _ _ hy9,trivial⟩ ?_
  obtain⟨Sv,h⟩:=ab h
  obtain⟨SS,h⟩:=ab h
  obtain⟨hv12,h⟩:=ab h
  obtain⟨hv13,h⟩:=ab h
  obtain⟨hv14,h⟩:=ab h
  obtain⟨hv15,h⟩:=ab h
  refine mf [] [] [] [0≤a2,a2<(List.length a0:Int),0≤a2,a2<(List.length a0:Int),0≤a1,a1<(List.length a0:Int),0≤a1,a1<(List.length a0:Int),0≤a1,a1<(List.length y8:Int),0≤a1,a1<(List.length (xA a0 y8 a1 a2):Int),0≤a2,a2<(List.length (Ag a0 y8 a1 a2):Int),0≤a2,a2<(List.length (xB a0 y8 a1 a2):Int)] ⟨Sv.1,Sv.2,Sv.1,Sv.2,SS.1,SS.2,SS.1,SS.2,SS.1,hv12,SS.1,hv13,Sv.1,hv14,Sv.1,hv15,trivial⟩ ?_
  refine aF ?_
  refine ai.ret ?_
  obtain rfl:=Option.some.inj h
  exact(av [.freeze 43 (.slice 72 aY)] [some (.slice 72 aY),some (.int .i64)] (cL 105 []) (by kernel_rfl)).1
abbrev xC(a0:List cY)(a1:Int)(a2:Int):List cY:=List.set a0 (Int.toNat a1) ((nth aY a0 a2).1,(nth aY a0 a1).2)
abbrev Ah(a0:List cY)(a1:Int)(a2:Int):List cY:=List.set (xC a0 a1 a2) (Int.toNat a1) ((nth aY (xC a0 a1 a2) a1).1,(((nth aY a0 a2).2).1,((nth aY (xC a0 a1 a2) a1).2).2))
abbrev xD(a0:List cY)(a1:Int)(a2:Int):List cY:=List.set (Ah a0 a1 a2) (Int.toNat a2) ((nth aY a0 a1).1,(nth aY (Ah a0 a1 a2) a2).2)
def f11(a0:List cY)(a1:Int)(a2:Int):Option ((List cY)×Int):=
 Option.bind (Option.bind (if(decide (a1<(0:Int)))=true then(some true) else(if(decide ((List.length a0:Int)≤a1))=true then(some true) else(if(decide (a2<(0:Int)))=true then(some true) else(some (decide ((List.length a0:Int)≤a2)))))) fun(o2:Bool)=>if o2=true then(some (.ret (([]:List cY),(1:Int)))) else(some (.brk ()))) fun(o1:iQ Unit ((List cY)×Int))=>match o1 with| .brk _v7=>(if(List.length ([]:List cY)+List.length a0)*72≤az then(if 0≤a2∧a2<(List.length a0:Int) then(if 0≤a1∧a1<(List.length a0:Int) then(if a1<(List.length (xC a0 a1 a2):Int) then(if a2<(List.length (Ah a0 a1 a2):Int) then(if a2<(List.length (xD a0 a1 a2):Int) then(some (List.set (xD a0 a1 a2) (Int.toNat a2) ((nth aY (xD a0 a1 a2) a2).1,(((nth aY a0 a1).2).1,((nth aY (xD a0 a1 a2) a2).2).2)),(0:Int))) else none) else none) else none) else none) else none) else none)| .ret r14=>(some r14)
abbrev FR(a0:List cY)(a1:Int)(a2:Int)(r:(List cY)×Int):Prop:=Fc Tryz.prog gl 11 [(.val (.slice 72 aY) a0),(.val (.int .i64) a1),(.val (.int .i64) a2)] (aA (List.replicate 107 none) []) (.ret (.bU (.cons (.val (.slice 72 aY) r.1) (.cons (.val (.int .i64) r.2) .nil)))) (bz 107 [])
theorem tK(a0:List cY)(a1:Int)(a2:Int)(r:(List cY)×Int)(h:f11 a0 a1 a2=some r):FR a0 a1 a2 r:=by
 refine Fc.of Tryz.call11 (bW.aG tied Tryz.func11 rfl rfl (σ0:=ao 67 107 [(0,(.val (.slice 72 aY) a0)),(1,(.val (.int .i64) a1)),(2,(.val (.int .i64) a2))] []) (by kernel_rfl) ?_)
 unfold f11 at h
 refine aF ?_
 obtain⟨o1,h1,h⟩:=bind_some h
 refine ai.aZ (fun σ'=>∃v7,o1= .brk v7∧σ'=ao 67 107 [(0,(.val (.slice 72 aY) a0)),(1,(.val (.int .i64) a1)),(2,(.val (.int .i64) a2))] []) ?_ ?_
 ·obtain⟨o2,h3,h1⟩:=bind_some h1
  refine ai.aZ (fun σ'=>σ'=ao 67 107 [(0,(.val (.slice 72 aY) a0)),(1,(.val (.int .i64) a1)),(2,(.val (.int .i64) a2)),(26,(.val .bool o2))] []) ?_ ?_
  ·rcases ae h3 with⟨hg3,h3⟩|⟨hg3,h3⟩
   ·refine kc [] [true,true,true] [] [(decide (a1<(0:Int)))=true,true=true,true=true] ⟨hg3,rfl,rfl,trivial⟩ ?_
    obtain rfl:=Option.some.inj h3
    exact bx [.ak [0,1,2,26] []] rfl
   ·rcases ae h3 with⟨hg4,h3⟩|⟨hg4,h3⟩
    ·refine kc [] [false,true,true] [] [(decide (a1<(0:Int)))=false,(decide ((List.length a0:Int)≤a1))=true,true=true] ⟨hg3,hg4,rfl,trivial⟩ ?_
     obtain rfl:=Option.some.inj h3
     exact bx [.ak [0,1,2,26] []] rfl
    ·rcases ae h3 with⟨hg5,h3⟩|⟨hg5,h3⟩
     ·refine kc [] [false,false,true] [] [(decide (a1<(0:Int)))=false,(decide ((List.length a0:Int)≤a1))=false,(decide (a2<(0:Int)))=true] ⟨hg3,hg4,hg5,trivial⟩ ?_
      obtain rfl:=Option.some.inj h3
      exact bx [.ak [0,1,2,26] []] rfl
     ·refine kc [] [false,false,false] [] [(decide (a1<(0:Int)))=false,(decide ((List.length a0:Int)≤a1))=false,(decide (a2<(0:Int)))=false] ⟨hg3,hg4,hg5,trivial⟩ ?_
      obtain rfl:=Option.some.inj h3
      exact bx [.ak [0,1,2,26] []] rfl
  ·rintro _ rfl
   rcases ae h1 with⟨hc6,h1⟩|⟨hc6,h1⟩
   ·refine cg hc6 ?_
    refine aF ?_
    refine ai.ret ?_
    obtain rfl:=Option.some.inj h1
    dsimp only at h
    obtain rfl:=Option.some.inj h
    exact(av [] [some (.slice 72 aY),some (.int .i64)] (cL 107 []) (by kernel_rfl)).1
   ·refine cq hc6 ?_
    refine ai.skip ?_
    obtain rfl:=Option.some.inj h1
    exact bx [.ak [0,1,2] []] ⟨_,rfl,rfl⟩
 ·rintro _ ⟨v7,rfl,rfl⟩
  dsimp only at h
  obtain⟨hv8,h⟩:=ab h
  refine cH [] [] [] [(List.length ([]:List cY)+List.length a0)*72≤az] ⟨hv8,trivial⟩ ?_
  obtain⟨hv9,h⟩:=ab h
  obtain⟨Sv,h⟩:=ab h
  refine cH [] [] [] [0≤a2,a2<(List.length a0:Int),0≤a1,a1<(List.length a0:Int)] ⟨hv9.1,hv9.2,Sv.1,Sv.2,trivial⟩ ?_
  obtain⟨SS,h⟩:=ab h
  refine cH [] [] [] [0≤a2,a2<(List.length a0:Int),0≤a1,a1<(List.length (xC a0 a1 a2):Int)] ⟨hv9.1,hv9.2,Sv.1,SS,trivial⟩ ?_
  obtain⟨hv12,h⟩:=ab h
  refine cH [] [] [] [0≤a1,a1<(List.length a0:Int),0≤a2,a2<(List.length (Ah a0 a1 a2):Int)] ⟨Sv.1,Sv.2,hv9.1,hv12,trivial⟩ ?_
  obtain⟨hv13,h⟩:=ab h
  refine cH [] [] [] [0≤a1,a1<(List.length a0:Int),0≤a2,a2<(List.length (xD a0 a1 a2):Int)] ⟨Sv.1,Sv.2,hv9.1,hv13,trivial⟩ ?_
  refine aF ?_
  refine ai.ret ?_
  obtain rfl:=Option.some.inj h
  exact(av [.freeze 45 (.slice 72 aY)] [some (.slice 72 aY),some (.int .i64)] (cL 107 []) (by kernel_rfl)).1
def j6(a0:List Int)(a1:List Int):Nat→Int→Option (iQ Unit Bool)
 |0,_=>none
 |n1+1,RS=>if(decide (RS<(List.length a0:Int)))=true then(if 0≤RS∧RS<(List.length a0:Int) then(if RS<(List.length a1:Int) then(if(!decide ((nth (.int .i64) a0 RS)=(nth (.int .i64) a1 RS)))=true then(some (.ret false)) else(j6 a0 a1 n1 (al (RS+(1:Int))))) else none) else none) else(some (.brk ()))
def f12(a0:List Int)(a1:List Int):Option Bool:=
 if(!decide ((List.length a0:Int)=(List.length a1:Int)))=true then(some false) else(Option.bind (j6 a0 a1 (bC) (0:Int)) fun(o1:iQ Unit Bool)=>match o1 with| .brk _v6=>(some true)| .ret r7=>(some r7))
abbrev yO(a0:List Int)(a1:List Int)(r:Bool):Prop:=Fc Tryz.prog gl 12 [(.val (.slice 8 (.int .i64)) a0),(.val (.slice 8 (.int .i64)) a1)] (aA (List.replicate 66 none) []) (.ret (.val .bool r)) (bz 66 [])
theorem lM(a0:List Int)(a1:List Int)(r:Bool)(h:f12 a0 a1=some r):yO a0 a1 r:=by
 refine Fc.of Tryz.call12 (bW.aG tied Tryz.func12 rfl rfl (σ0:=ao 26 66 [(0,(.val (.slice 8 (.int .i64)) a0)),(1,(.val (.slice 8 (.int .i64)) a1))] []) (by kernel_rfl) ?_)
 unfold f12 at h
 refine aF ?_
 refine ai.seq ?_
 refine aF ?_
 rcases ae h with⟨hc8,h⟩|⟨hc8,h⟩
 ·refine cg hc8 ?_
  refine aF ?_
  refine ai.ret ?_
  obtain rfl:=Option.some.inj h
  exact(av [] [some .bool] (cL 66 []) (by kernel_rfl)).1
 ·refine cq hc8 ?_
  refine zk ?_
  obtain⟨o1,h1,h⟩:=bind_some h
  refine ai.aZ (fun σ'=>∃v6,o1= .brk v6∧σ'=ao 26 66 [] []) ?_ ?_
  ·refine aF ?_
   refine ai.block ?_
   refine ai.aV (fun n σ=>∃(RS:Int),j6 a0 a1 n RS=some o1∧σ=ao 26 66 [(0,(.val (.slice 8 (.int .i64)) a0)),(1,(.val (.slice 8 (.int .i64)) a1)),(5,(.val (.int .i64) RS))] []) [.ak [0,1,5] []] (by kernel_rfl) ⟨_,h1,rfl⟩ ?_
   rintro n1 _ ⟨RS,h3,rfl⟩
   cases n1 with
   |zero=>exact absurd h3 (by simp[j6])
   |
    succ n1=>
    unfold j6 at h3
    refine ai.seq ?_
    refine aF ?_
    rcases ae h3 with⟨hc5,h3⟩|⟨hc5,h3⟩
    ·refine cg hc5 ?_
     refine zk ?_
     refine ai.seq ?_
     refine ai.block ?_
     obtain⟨Sx,h3⟩:=ab h3
     obtain⟨hv3,h3⟩:=ab h3
     refine mf [] [] [] [0≤RS,RS<(List.length a0:Int),0≤RS,RS<(List.length a1:Int)] ⟨Sx.1,Sx.2,Sx.1,hv3,trivial⟩ ?_
     rcases ae h3 with⟨hc4,h3⟩|⟨hc4,h3⟩
     ·refine cg hc4 ?_
      refine aF ?_
      refine ai.ret ?_
      obtain rfl:=Option.some.inj h3
      dsimp only at h
      obtain rfl:=Option.some.inj h
      exact(av [] [some .bool] (cL 66 []) (by kernel_rfl)).1
     ·refine cq hc4 ?_
      refine ai.skip ?_
      refine bN ?_
      change ai _ _ _ _ _
      refine fS ?_
      exact gI [.ak [0,1,5] []] ⟨_,h3,rfl⟩
    ·refine cq hc5 ?_
     refine ai.exit ?_
     refine ze ?_
     obtain rfl:=Option.some.inj h3
     exact bx [.ak [] []] ⟨_,rfl,rfl⟩
  ·rintro _ ⟨v6,rfl,rfl⟩
   dsimp only at h
   refine aF ?_
   refine ai.ret ?_
   obtain rfl:=Option.some.inj h
   exact(av [] [some .bool] (cL 66 []) (by kernel_rfl)).1
end Go.Proofs.YtmpdeifdnbhdiaaGreatDoor
