/- Made by program (dec.py): walks -/
import Derived.Test.YtjabllhapfphoaaGreatDoorBase
import Derived.Test.YtjabllhapfphoaaGreatDoorS6
namespace Go.Proofs.YtjabllhapfphoaaGreatDoor
open Go.Abs
def f5:Option Bool:=
 some true
set_option maxRecDepth 100000 in
theorem x5(r:Bool)(h:f5=some r):Fc Tryz.prog gl 5 [] (aj (List.replicate 281 none) []) (.ret (.val .bool r)) (aq 281 []):=by
 cases h
 exact DR _
def f61(a0:Int)(a1:lZ):Option Bool:=
 Option.bind (if(decide (a0≤(10:Int)))=true then(if(decide ((List.length a1.2.1:Int)≤(30:Int)))=true then(some (decide ((List.length a1.2.2.1:Int)≤(12:Int)))) else(some false)) else(if(decide ((256:Int)<a0))=true then(if(decide ((List.length a1.2.1:Int)≤(30:Int)))=true then(some (decide ((List.length a1.2.2.1:Int)≤(12:Int)))) else(some false)) else(some false))) fun(o1:Bool)=>some o1
set_option maxRecDepth 100000 in
theorem K3(a0:Int)(a1:lZ)(r:Bool)(h:f61 a0 a1=some r):Fc Tryz.prog gl 61 [(.val (.int .i64) a0),(.val fw a1)] (aj (List.replicate 63 none) []) (.ret (.val .bool r)) (aq 63 []):=by
 refine Fc.of Tryz.call61 (bz.aD tied Tryz.func61 rfl rfl (σ0:=ar 23 63 [(0,(.val (.int .i64) a0)),(1,(.val fw a1))] []) (by kernel_rfl) ?_)
 unfold f61 at h
 refine aa.af tied [] [] [] [] (by kernel_rfl) trivial ?_
 obtain⟨o1,h1,h⟩:=bind_some h
 refine aa.ba (fun σ'=>σ'=ar 23 63 [(4,(.val .bool o1))] []) ?_ ?_
 ·rcases ae h1 with⟨hg2,h1⟩|⟨hg2,h1⟩
  ·rcases ae h1 with⟨hg3,h1⟩|⟨hg3,h1⟩
   ·refine aa.br tied [] [true,true,true] [] [(decide (a0≤(10:Int)))=true,true=true,(decide ((List.length a1.2.1:Int)≤(30:Int)))=true] (by kernel_rfl) ⟨hg2,rfl,hg3,trivial⟩ ?_
    obtain rfl:=Option.some.inj h1
    exact jQ.mk [.an [4] []] (by kernel_rfl) rfl
   ·refine aa.br tied [] [true,true,false] [] [(decide (a0≤(10:Int)))=true,true=true,(decide ((List.length a1.2.1:Int)≤(30:Int)))=false] (by kernel_rfl) ⟨hg2,rfl,hg3,trivial⟩ ?_
    obtain rfl:=Option.some.inj h1
    exact jQ.mk [.an [4] []] (by kernel_rfl) rfl
  ·rcases ae h1 with⟨hg4,h1⟩|⟨hg4,h1⟩
   ·rcases ae h1 with⟨hg5,h1⟩|⟨hg5,h1⟩
    ·refine aa.br tied [] [false,true,true] [] [(decide (a0≤(10:Int)))=false,(decide ((256:Int)<a0))=true,(decide ((List.length a1.2.1:Int)≤(30:Int)))=true] (by kernel_rfl) ⟨hg2,hg4,hg5,trivial⟩ ?_
     obtain rfl:=Option.some.inj h1
     exact jQ.mk [.an [4] []] (by kernel_rfl) rfl
    ·refine aa.br tied [] [false,true,false] [] [(decide (a0≤(10:Int)))=false,(decide ((256:Int)<a0))=true,(decide ((List.length a1.2.1:Int)≤(30:Int)))=false] (by kernel_rfl) ⟨hg2,hg4,hg5,trivial⟩ ?_
     obtain rfl:=Option.some.inj h1
     exact jQ.mk [.an [4] []] (by kernel_rfl) rfl
   ·refine aa.br tied [] [false,false,false] [] [(decide (a0≤(10:Int)))=false,(decide ((256:Int)<a0))=false,false=false] (by kernel_rfl) ⟨hg2,hg4,rfl,trivial⟩ ?_
    obtain rfl:=Option.some.inj h1
    exact jQ.mk [.an [4] []] (by kernel_rfl) rfl
 ·rintro _ rfl
  refine aa.ret ?_
  obtain rfl:=Option.some.inj h
  exact(au [] [some .bool] (cq 63 []) (by kernel_rfl)).1
def gT(a0:cI)(u1_0:Int):Nat→Int→Option (c6 Unit Bool)
 |0,_=>none
 |n2+1,u2_0=>if(decide (u2_0<(List.length (((((((((((nth a8 a0.2.2.2.2.1 u1_0).2).2).2).2).2).2).2).2).2).1):Int)))=true then(if 0≤u2_0∧u2_0<(List.length (((((((((((nth a8 a0.2.2.2.2.1 u1_0).2).2).2).2).2).2).2).2).2).1):Int) then(Option.bind (f61 (1:Int) (nth fw (((((((((((nth a8 a0.2.2.2.2.1 u1_0).2).2).2).2).2).2).2).2).2).1) u2_0)) fun y12=>if(!y12)=true then(some (.ret false)) else(gT a0 u1_0 n2 (aP (u2_0+(1:Int))))) else none) else(some (.bh ()))
def gU(a0:cI):Nat→Int→Option (c6 Unit Bool)
 |0,_=>none
 |n1+1,u1_0=>if(decide (u1_0<(List.length a0.2.2.2.2.1:Int)))=true then(Option.bind (if 0≤u1_0∧u1_0<(List.length a0.2.2.2.2.1:Int) then(Option.bind (Option.bind (if(decide ((16:Int)<(List.length (((((((nth a8 a0.2.2.2.2.1 u1_0).2).2).2).2).2).1):Int)))=true then(some true) else(if(decide ((16:Int)<(List.length ((((((((nth a8 a0.2.2.2.2.1 u1_0).2).2).2).2).2).2).1):Int)))=true then(some true) else(some (decide ((16:Int)<(List.length (((((((((((nth a8 a0.2.2.2.2.1 u1_0).2).2).2).2).2).2).2).2).2).1):Int)))))) fun(o5:Bool)=>if o5=true then(some (.ret false)) else(some (.bh ()))) fun(o4:c6 Unit Bool)=>match o4 with| .bh _v9=>(Option.bind (gT a0 u1_0 (bX) (0:Int)) fun(o10:c6 Unit Bool)=>match o10 with| .bh _v16=>(some (.bh ()))| .ret r17=>(some (.ret r17)))| .ret r18=>(some (.ret r18))) else none) fun(o2:c6 Unit Bool)=>match o2 with| .bh _v19=>(gU a0 n1 (aP (u1_0+(1:Int))))| .ret r20=>(some (.ret r20))) else(some (.bh ()))
def gV(a0:cI):Nat→Int→Option (c6 Unit Bool)
 |0,_=>none
 |n3+1,u3_0=>if(decide (u3_0<(List.length a0.2.2.2.2.2.1:Int)))=true then(if 0≤u3_0∧u3_0<(List.length a0.2.2.2.2.2.1:Int) then(if(decide ((40:Int)<(List.length (nth (.slice 32 ao) a0.2.2.2.2.2.1 u3_0):Int)))=true then(some (.ret false)) else(gV a0 n3 (aP (u3_0+(1:Int))))) else none) else(some (.bh ()))
def f26(a0:cI):Option Bool:=
 Option.bind (gU a0 (bX) (0:Int)) fun(o1:c6 Unit Bool)=>match o1 with| .bh _v22=>(Option.bind (gV a0 (bX) (0:Int)) fun(o23:c6 Unit Bool)=>match o23 with| .bh _v27=>(Option.bind (if(decide ((List.length a0.2.2.2.2.1:Int)≤(6:Int)))=true then(some (decide ((List.length a0.2.2.2.2.2.1:Int)≤(6:Int)))) else(some false)) fun(o28:Bool)=>some o28)| .ret r30=>(some r30))| .ret r31=>(some r31)
set_option maxRecDepth 100000 in
theorem K4(a0:cI)(r:Bool)(h:f26 a0=some r):Fc Tryz.prog gl 26 [(.val aI a0)] (aj (List.replicate 113 none) []) (.ret (.val .bool r)) (aq 113 []):=by
 refine Fc.of Tryz.call26 (bz.aD tied Tryz.func26 rfl rfl (σ0:=ar 73 113 [(0,(.val aI a0))] []) (by kernel_rfl) ?_)
 unfold f26 at h
 refine aa.af tied [] [] [] [] (by kernel_rfl) trivial ?_
 obtain⟨o1,h1,h⟩:=bind_some h
 refine aa.ba (fun σ'=>∃v22,o1= .bh v22∧σ'=ar 73 113 [(1,(.ptr 17 []))] [(17,some (.var aI (.val aI a0)))]) ?_ ?_
 ·refine aa.af tied [] [] [] [] (by kernel_rfl) trivial ?_
  refine aa.block ?_
  refine aa.aB (fun n σ=>∃(u1_0:Int),gU a0 n u1_0=some o1∧σ=ar 73 113 [(1,(.ptr 17 [])),(3,(.val (.int .i64) u1_0))] [(17,some (.var aI (.val aI a0)))]) [.an [1,3] [17]] (by kernel_rfl) ⟨_,h1,rfl⟩ ?_
  rintro n1 _ ⟨u1_0,h16,rfl⟩
  cases n1 with
  |zero=>exact absurd h16 (by simp[gU])
  |
   succ n1=>
   unfold gU at h16
   refine aa.seq ?_
   refine aa.af tied [] [] [] [] (by kernel_rfl) trivial ?_
   rcases ae h16 with⟨hc21,h16⟩|⟨hc21,h16⟩
   ·refine aa.aE (b:=decide (u1_0<(List.length a0.2.2.2.2.1:Int))) (by kernel_rfl) hc21 ?_
    refine aa.skip ?_
    change aa _ _ _ _ _
    obtain⟨o2,h17,h16⟩:=bind_some h16
    refine aa.ba (fun σ'=>∃v19,o2= .bh v19∧σ'=ar 73 113 [(1,(.ptr 17 [])),(3,(.val (.int .i64) u1_0))] [(17,some (.var aI (.val aI a0)))]) ?_ ?_
    ·refine aa.block ?_
     obtain⟨hv3,h17⟩:=ah h17
     refine aa.af tied [] [] [] [0≤u1_0,u1_0<(List.length a0.2.2.2.2.1:Int)] (by kernel_rfl) ⟨hv3.1,hv3.2,trivial⟩ ?_
     obtain⟨o4,h24,h17⟩:=bind_some h17
     refine aa.ba (fun σ'=>∃v9,o4= .bh v9∧σ'=ar 73 113 [(1,(.ptr 17 [])),(3,(.val (.int .i64) u1_0)),(4,(.ptr 20 []))] [(17,some (.var aI (.val aI a0))),(20,some (.var a8 (.val a8 (nth a8 a0.2.2.2.2.1 u1_0))))]) ?_ ?_
     ·obtain⟨o5,h26,h24⟩:=bind_some h24
      refine aa.ba (fun σ'=>σ'=ar 73 113 [(1,(.ptr 17 [])),(3,(.val (.int .i64) u1_0)),(4,(.ptr 20 [])),(34,(.val .bool o5))] [(17,some (.var aI (.val aI a0))),(20,some (.var a8 (.val a8 (nth a8 a0.2.2.2.2.1 u1_0))))]) ?_ ?_
      ·rcases ae h26 with⟨hg6,h26⟩|⟨hg6,h26⟩
       ·refine aa.br tied [] [true,true] [] [(decide ((16:Int)<(List.length (((((((nth a8 a0.2.2.2.2.1 u1_0).2).2).2).2).2).1):Int)))=true,true=true] (by kernel_rfl) ⟨hg6,rfl,trivial⟩ ?_
        obtain rfl:=Option.some.inj h26
        exact jQ.mk [.an [1,3,4,34] [17,20]] (by kernel_rfl) rfl
       ·rcases ae h26 with⟨hg7,h26⟩|⟨hg7,h26⟩
        ·refine aa.br tied [] [false,true] [] [(decide ((16:Int)<(List.length (((((((nth a8 a0.2.2.2.2.1 u1_0).2).2).2).2).2).1):Int)))=false,(decide ((16:Int)<(List.length ((((((((nth a8 a0.2.2.2.2.1 u1_0).2).2).2).2).2).2).1):Int)))=true] (by kernel_rfl) ⟨hg6,hg7,trivial⟩ ?_
         obtain rfl:=Option.some.inj h26
         exact jQ.mk [.an [1,3,4,34] [17,20]] (by kernel_rfl) rfl
        ·refine aa.br tied [] [false,false] [] [(decide ((16:Int)<(List.length (((((((nth a8 a0.2.2.2.2.1 u1_0).2).2).2).2).2).1):Int)))=false,(decide ((16:Int)<(List.length ((((((((nth a8 a0.2.2.2.2.1 u1_0).2).2).2).2).2).2).1):Int)))=false] (by kernel_rfl) ⟨hg6,hg7,trivial⟩ ?_
         obtain rfl:=Option.some.inj h26
         exact jQ.mk [.an [1,3,4,34] [17,20]] (by kernel_rfl) rfl
      ·rintro _ rfl
       rcases ae h24 with⟨hc8,h24⟩|⟨hc8,h24⟩
       ·refine aa.aE (b:=o5) (by kernel_rfl) hc8 ?_
        refine aa.af tied [] [] [] [] (by kernel_rfl) trivial ?_
        refine aa.ret ?_
        obtain rfl:=Option.some.inj h24
        dsimp only at h17
        obtain rfl:=Option.some.inj h17
        dsimp only at h16
        obtain rfl:=Option.some.inj h16
        dsimp only at h
        obtain rfl:=Option.some.inj h
        exact(au [] [some .bool] (cq 113 []) (by kernel_rfl)).1
       ·refine aa.aF (b:=o5) (by kernel_rfl) hc8 ?_
        refine aa.skip ?_
        obtain rfl:=Option.some.inj h24
        exact jQ.mk [.an [1,3,4] [17,20]] (by kernel_rfl) ⟨_,rfl,rfl⟩
     ·rintro _ ⟨v9,rfl,rfl⟩
      dsimp only at h17
      refine aa.af tied [] [] [] [] (by kernel_rfl) trivial ?_
      obtain⟨o10,h27,h17⟩:=bind_some h17
      refine aa.oP (fun σ'=>∃v16,o10= .bh v16∧σ'=ar 73 113 [(1,(.ptr 17 [])),(3,(.val (.int .i64) u1_0))] [(17,some (.var aI (.val aI a0)))]) (Cl.bL (Cl.j (Cl.loop (Cl.bL (Cl.j Cl.f))))) ?_ ?_
      ·refine aa.block ?_
       refine aa.aB (fun n σ=>∃(u2_0:Int),gT a0 u1_0 n u2_0=some o10∧σ=ar 73 113 [(1,(.ptr 17 [])),(3,(.val (.int .i64) u1_0)),(4,(.ptr 20 [])),(5,(.val (.int .i64) u2_0))] [(17,some (.var aI (.val aI a0))),(20,some (.var a8 (.val a8 (nth a8 a0.2.2.2.2.1 u1_0))))]) [.an [1,3,4,5] [17,20]] (by kernel_rfl) ⟨_,h27,rfl⟩ ?_
       rintro n2 _ ⟨u2_0,h29,rfl⟩
       cases n2 with
       |zero=>exact absurd h29 (by simp[gT])
       |
        succ n2=>
        unfold gT at h29
        refine aa.seq ?_
        refine aa.af tied [] [] [] [] (by kernel_rfl) trivial ?_
        rcases ae h29 with⟨hc15,h29⟩|⟨hc15,h29⟩
        ·refine aa.aE (b:=decide (u2_0<(List.length (((((((((((nth a8 a0.2.2.2.2.1 u1_0).2).2).2).2).2).2).2).2).2).1):Int))) (by kernel_rfl) hc15 ?_
         refine aa.skip ?_
         change aa _ _ _ _ _
         refine aa.seq ?_
         refine aa.block ?_
         obtain⟨hv11,h29⟩:=ah h29
         obtain⟨y12,hy13,h29⟩:=bind_some h29
         refine aa.af tied [⟨(.val .bool y12),[],[],[],63⟩] [] [] [0≤u2_0,u2_0<(List.length (((((((((((nth a8 a0.2.2.2.2.1 u1_0).2).2).2).2).2).2).2).2).2).1):Int),Fc Tryz.prog gl 61 [(.val (.int .i64) (1:Int)),(.val fw (nth fw (((((((((((nth a8 a0.2.2.2.2.1 u1_0).2).2).2).2).2).2).2).2).2).1) u2_0))] (aj (List.replicate 63 none) []) (.ret (.val .bool y12)) (aq 63 [])] (by kernel_rfl) ⟨hv11.1,hv11.2,K3 _ _ _ hy13,trivial⟩ ?_
         rcases ae h29 with⟨hc14,h29⟩|⟨hc14,h29⟩
         ·refine aa.aE (b:= !y12) (by kernel_rfl) hc14 ?_
          refine aa.af tied [] [] [] [] (by kernel_rfl) trivial ?_
          refine aa.ret ?_
          obtain rfl:=Option.some.inj h29
          dsimp only at h17
          obtain rfl:=Option.some.inj h17
          dsimp only at h16
          obtain rfl:=Option.some.inj h16
          dsimp only at h
          obtain rfl:=Option.some.inj h
          exact(au [] [some .bool] (cq 113 []) (by kernel_rfl)).1
         ·refine aa.aF (b:= !y12) (by kernel_rfl) hc14 ?_
          refine aa.skip ?_
          refine bN ?_
          change aa _ _ _ _ _
          refine aa.br tied [] [] [] [] (by kernel_rfl) trivial ?_
          exact aB.mk [.an [1,3,4,5] [17,20]] (by kernel_rfl) ⟨_,h29,rfl⟩
        ·refine aa.aF (b:=decide (u2_0<(List.length (((((((((((nth a8 a0.2.2.2.2.1 u1_0).2).2).2).2).2).2).2).2).2).1):Int))) (by kernel_rfl) hc15 ?_
         refine aa.exit ?_
         refine tE ?_
         refine lE ?_
         refine bE ?_
         obtain rfl:=Option.some.inj h29
         exact jQ.mk [.an [1,3] [17]] (by kernel_rfl) ⟨_,rfl,rfl⟩
      ·rintro _ ⟨v16,rfl,rfl⟩
       dsimp only at h17
       refine bN ?_
       obtain rfl:=Option.some.inj h17
       exact jQ.mk [.an [1,3] [17]] (by kernel_rfl) ⟨_,rfl,rfl⟩
    ·rintro _ ⟨v19,rfl,rfl⟩
     dsimp only at h16
     refine aa.br tied [] [] [] [] (by kernel_rfl) trivial ?_
     exact aB.mk [.an [1,3] [17]] (by kernel_rfl) ⟨_,h16,rfl⟩
   ·refine aa.aF (b:=decide (u1_0<(List.length a0.2.2.2.2.1:Int))) (by kernel_rfl) hc21 ?_
    refine aa.exit ?_
    refine tE ?_
    refine lE ?_
    refine bE ?_
    obtain rfl:=Option.some.inj h16
    exact jQ.mk [.an [1] [17]] (by kernel_rfl) ⟨_,rfl,rfl⟩
 ·rintro _ ⟨v22,rfl,rfl⟩
  dsimp only at h
  obtain⟨o23,h30,h⟩:=bind_some h
  refine aa.ba (fun σ'=>∃v27,o23= .bh v27∧σ'=ar 73 113 [(1,(.ptr 17 []))] [(17,some (.var aI (.val aI a0)))]) ?_ ?_
  ·refine aa.af tied [] [] [] [] (by kernel_rfl) trivial ?_
   refine aa.block ?_
   refine aa.aB (fun n σ=>∃(u3_0:Int),gV a0 n u3_0=some o23∧σ=ar 73 113 [(1,(.ptr 17 [])),(6,(.val (.int .i64) u3_0))] [(17,some (.var aI (.val aI a0)))]) [.an [1,6] [17]] (by kernel_rfl) ⟨_,h30,rfl⟩ ?_
   rintro n3 _ ⟨u3_0,h32,rfl⟩
   cases n3 with
   |zero=>exact absurd h32 (by simp[gV])
   |
    succ n3=>
    unfold gV at h32
    refine aa.seq ?_
    refine aa.af tied [] [] [] [] (by kernel_rfl) trivial ?_
    rcases ae h32 with⟨hc26,h32⟩|⟨hc26,h32⟩
    ·refine aa.aE (b:=decide (u3_0<(List.length a0.2.2.2.2.2.1:Int))) (by kernel_rfl) hc26 ?_
     refine aa.skip ?_
     change aa _ _ _ _ _
     refine aa.seq ?_
     refine aa.block ?_
     obtain⟨hv24,h32⟩:=ah h32
     refine aa.af tied [] [] [] [0≤u3_0,u3_0<(List.length a0.2.2.2.2.2.1:Int)] (by kernel_rfl) ⟨hv24.1,hv24.2,trivial⟩ ?_
     rcases ae h32 with⟨hc25,h32⟩|⟨hc25,h32⟩
     ·refine aa.aE (b:=decide ((40:Int)<(List.length (nth (.slice 32 ao) a0.2.2.2.2.2.1 u3_0):Int))) (by kernel_rfl) hc25 ?_
      refine aa.af tied [] [] [] [] (by kernel_rfl) trivial ?_
      refine aa.ret ?_
      obtain rfl:=Option.some.inj h32
      dsimp only at h
      obtain rfl:=Option.some.inj h
      exact(au [] [some .bool] (cq 113 []) (by kernel_rfl)).1
     ·refine aa.aF (b:=decide ((40:Int)<(List.length (nth (.slice 32 ao) a0.2.2.2.2.2.1 u3_0):Int))) (by kernel_rfl) hc25 ?_
      refine aa.skip ?_
      refine bN ?_
      change aa _ _ _ _ _
      refine aa.br tied [] [] [] [] (by kernel_rfl) trivial ?_
      exact aB.mk [.an [1,6] [17]] (by kernel_rfl) ⟨_,h32,rfl⟩
    ·refine aa.aF (b:=decide (u3_0<(List.length a0.2.2.2.2.2.1:Int))) (by kernel_rfl) hc26 ?_
     refine aa.exit ?_
     refine tE ?_
     refine lE ?_
     refine bE ?_
     obtain rfl:=Option.some.inj h32
     exact jQ.mk [.an [1] [17]] (by kernel_rfl) ⟨_,rfl,rfl⟩
  ·rintro _ ⟨v27,rfl,rfl⟩
   dsimp only at h
   obtain⟨o28,h33,h⟩:=bind_some h
   refine aa.ba (fun σ'=>σ'=ar 73 113 [(2,(.val .bool o28))] []) ?_ ?_
   ·rcases ae h33 with⟨hg29,h33⟩|⟨hg29,h33⟩
    ·refine aa.br tied [] [true] [] [(decide ((List.length a0.2.2.2.2.1:Int)≤(6:Int)))=true] (by kernel_rfl) ⟨hg29,trivial⟩ ?_
     obtain rfl:=Option.some.inj h33
     exact jQ.mk [.an [2] []] (by kernel_rfl) rfl
    ·refine aa.br tied [] [false] [] [(decide ((List.length a0.2.2.2.2.1:Int)≤(6:Int)))=false] (by kernel_rfl) ⟨hg29,trivial⟩ ?_
     obtain rfl:=Option.some.inj h33
     exact jQ.mk [.an [2] []] (by kernel_rfl) rfl
   ·rintro _ rfl
    refine aa.ret ?_
    obtain rfl:=Option.some.inj h
    exact(au [] [some .bool] (cq 113 []) (by kernel_rfl)).1
def mR(a0:List cI):Nat→Int→Option (c6 Unit Bool)
 |0,_=>none
 |n1+1,u1_0=>if(decide (u1_0<(List.length a0:Int)))=true then(if 0≤u1_0∧u1_0<(List.length a0:Int) then(Option.bind (f26 (nth aI a0 u1_0)) fun y3=>if(!y3)=true then(some (.ret false)) else(mR a0 n1 (aP (u1_0+(1:Int))))) else none) else(some (.bh ()))
def f6(a0:List cI):Option Bool:=
 Option.bind (mR a0 (bX) (0:Int)) fun(o1:c6 Unit Bool)=>match o1 with| .bh _v7=>(some (decide ((List.length a0:Int)≤(8:Int))))| .ret r8=>(some r8)
set_option maxRecDepth 100000 in
theorem x6(a0:List cI)(r:Bool)(h:f6 a0=some r):Fc Tryz.prog gl 6 [(.val (.slice 128 aI) a0)] (aj (List.replicate 59 none) []) (.ret (.val .bool r)) (aq 59 []):=by
 refine Fc.of Tryz.call6 (bz.aD tied Tryz.func6 rfl rfl (σ0:=ar 19 59 [(0,(.val (.slice 128 aI) a0))] []) (by kernel_rfl) ?_)
 unfold f6 at h
 refine aa.af tied [] [] [] [] (by kernel_rfl) trivial ?_
 obtain⟨o1,h1,h⟩:=bind_some h
 refine aa.ba (fun σ'=>∃v7,o1= .bh v7∧σ'=ar 19 59 [(0,(.val (.slice 128 aI) a0))] []) ?_ ?_
 ·refine aa.af tied [] [] [] [] (by kernel_rfl) trivial ?_
  refine aa.block ?_
  refine aa.aB (fun n σ=>∃(u1_0:Int),mR a0 n u1_0=some o1∧σ=ar 19 59 [(0,(.val (.slice 128 aI) a0)),(3,(.val (.int .i64) u1_0))] []) [.an [0,3] []] (by kernel_rfl) ⟨_,h1,rfl⟩ ?_
  rintro n1 _ ⟨u1_0,h3,rfl⟩
  cases n1 with
  |zero=>exact absurd h3 (by simp[mR])
  |
   succ n1=>
   unfold mR at h3
   refine aa.seq ?_
   refine aa.af tied [] [] [] [] (by kernel_rfl) trivial ?_
   rcases ae h3 with⟨hc6,h3⟩|⟨hc6,h3⟩
   ·refine aa.aE (b:=decide (u1_0<(List.length a0:Int))) (by kernel_rfl) hc6 ?_
    refine aa.skip ?_
    change aa _ _ _ _ _
    refine aa.seq ?_
    refine aa.block ?_
    obtain⟨hv2,h3⟩:=ah h3
    obtain⟨y3,hy4,h3⟩:=bind_some h3
    refine aa.af tied [⟨(.val .bool y3),[],[],[],113⟩] [] [] [0≤u1_0,u1_0<(List.length a0:Int),Fc Tryz.prog gl 26 [(.val aI (nth aI a0 u1_0))] (aj (List.replicate 113 none) []) (.ret (.val .bool y3)) (aq 113 [])] (by kernel_rfl) ⟨hv2.1,hv2.2,K4 _ _ hy4,trivial⟩ ?_
    rcases ae h3 with⟨hc5,h3⟩|⟨hc5,h3⟩
    ·refine aa.aE (b:= !y3) (by kernel_rfl) hc5 ?_
     refine aa.af tied [] [] [] [] (by kernel_rfl) trivial ?_
     refine aa.ret ?_
     obtain rfl:=Option.some.inj h3
     dsimp only at h
     obtain rfl:=Option.some.inj h
     exact(au [] [some .bool] (cq 59 []) (by kernel_rfl)).1
    ·refine aa.aF (b:= !y3) (by kernel_rfl) hc5 ?_
     refine aa.skip ?_
     refine bN ?_
     change aa _ _ _ _ _
     refine aa.br tied [] [] [] [] (by kernel_rfl) trivial ?_
     exact aB.mk [.an [0,3] []] (by kernel_rfl) ⟨_,h3,rfl⟩
   ·refine aa.aF (b:=decide (u1_0<(List.length a0:Int))) (by kernel_rfl) hc6 ?_
    refine aa.exit ?_
    refine tE ?_
    refine lE ?_
    refine bE ?_
    obtain rfl:=Option.some.inj h3
    exact jQ.mk [.an [0] []] (by kernel_rfl) ⟨_,rfl,rfl⟩
 ·rintro _ ⟨v7,rfl,rfl⟩
  dsimp only at h
  refine aa.af tied [] [] [] [] (by kernel_rfl) trivial ?_
  refine aa.ret ?_
  obtain rfl:=Option.some.inj h
  exact(au [] [some .bool] (cq 59 []) (by kernel_rfl)).1
def tM(a0:List cI)(a1:List Int):Option ((List cI)×(List Int)):=
 some (a0,a1)
set_option maxRecDepth 100000 in
theorem FQ(a0:List cI)(a1:List Int)(r:(List cI)×(List Int))(h:tM a0 a1=some r):Fc Tryz.prog gl 39 [(.val (.slice 128 aI) a0),(.val (.slice 8 (.int .i64)) a1)] (aj (List.replicate 46 none) []) (.ret (.func (.func 70) .nil (.cons (.ptr 18 []) (.cons (.ptr 19 []) .nil)))) (aq 46 [(18,(.var (.slice 128 aI) (.val (.slice 128 aI) r.1))),(19,(.var (.slice 8 (.int .i64)) (.val (.slice 8 (.int .i64)) r.2)))]):=by
 refine Fc.of Tryz.call39 (bz.aD tied Tryz.func39 rfl rfl (σ0:=ar 6 46 [(0,(.val (.slice 128 aI) a0)),(1,(.val (.slice 8 (.int .i64)) a1))] []) (by kernel_rfl) ?_)
 unfold tM at h
 refine aa.af tied [] [] [] [] (by kernel_rfl) trivial ?_
 refine aa.af tied [] [] [] [] (by kernel_rfl) trivial ?_
 refine aa.ret ?_
 obtain rfl:=Option.some.inj h
 exact(au [.an [4] [18,19]] [none] (cq 46 [18,19]) (by kernel_rfl)).1
def gB(a0:List Int)(a1:Int):Nat→Int→Option (c6 Unit Int)
 |0,_=>none
 |n1+1,u1_0=>if(decide (u1_0<(List.length a0:Int)))=true then(if 0≤u1_0∧u1_0<(List.length a0:Int) then(if(decide (a1=(nth (.int .i64) a0 u1_0)))=true then(some (.ret u1_0)) else(gB a0 a1 n1 (aP (u1_0+(1:Int))))) else none) else(some (.bh ()))
def f132(a0:List Int)(a1:Int):Option Int:=
 Option.bind (gB a0 a1 (List.length a0+1) (0:Int)) fun(o1:c6 Unit Int)=>match o1 with| .bh _v5=>(some (-1:Int))| .ret r6=>(some r6)
set_option maxRecDepth 100000 in
theorem Jk(a0:List Int)(a1:Int)(r:Int)(h:f132 a0 a1=some r):Fc Tryz.prog gl 132 [(.val (.slice 8 (.int .i64)) a0),(.val (.int .i64) a1)] (aj (List.replicate 59 none) []) (.ret (.val (.int .i64) r)) (aq 59 []):=by
 refine Fc.of Tryz.call132 (bz.aD tied Tryz.func132 rfl rfl (σ0:=ar 19 59 [(0,(.val (.slice 8 (.int .i64)) a0)),(1,(.val (.int .i64) a1))] []) (by kernel_rfl) ?_)
 unfold f132 at h
 refine aa.af tied [] [] [] [] (by kernel_rfl) trivial ?_
 obtain⟨o1,h1,h⟩:=bind_some h
 refine aa.ba (fun σ'=>∃v5,o1= .bh v5∧σ'=ar 19 59 [] []) ?_ ?_
 ·refine aa.af tied [] [] [] [] (by kernel_rfl) trivial ?_
  refine aa.block ?_
  refine aa.aB (fun n σ=>∃(u1_0:Int),gB a0 a1 n u1_0=some o1∧σ=ar 19 59 [(0,(.val (.slice 8 (.int .i64)) a0)),(1,(.val (.int .i64) a1)),(7,(.val (.int .i64) (List.length a0:Int))),(8,(.val (.int .i64) u1_0))] []) [.an [0,1,7,8] []] (by kernel_rfl) ⟨_,h1,rfl⟩ ?_
  rintro n1 _ ⟨u1_0,h3,rfl⟩
  cases n1 with
  |zero=>exact absurd h3 (by simp[gB])
  |
   succ n1=>
   unfold gB at h3
   refine aa.af tied [] [] [] [] (by kernel_rfl) trivial ?_
   refine aa.seq ?_
   rcases ae h3 with⟨hc4,h3⟩|⟨hc4,h3⟩
   ·refine aa.aE (b:=decide (u1_0<(List.length a0:Int))) (by kernel_rfl) hc4 ?_
    refine aa.skip ?_
    change aa _ _ _ _ _
    refine aa.seq ?_
    refine aa.block ?_
    refine aa.af tied [] [] [] [] (by kernel_rfl) trivial ?_
    obtain⟨hv2,h3⟩:=ah h3
    refine aa.af tied [] [] [] [0≤u1_0,u1_0<(List.length a0:Int)] (by kernel_rfl) ⟨hv2.1,hv2.2,trivial⟩ ?_
    rcases ae h3 with⟨hc3,h3⟩|⟨hc3,h3⟩
    ·refine aa.aE (b:=decide (a1=(nth (.int .i64) a0 u1_0))) (by kernel_rfl) hc3 ?_
     refine aa.af tied [] [] [] [] (by kernel_rfl) trivial ?_
     refine aa.ret ?_
     obtain rfl:=Option.some.inj h3
     dsimp only at h
     obtain rfl:=Option.some.inj h
     exact(au [] [some (.int .i64)] (cq 59 []) (by kernel_rfl)).1
    ·refine aa.aF (b:=decide (a1=(nth (.int .i64) a0 u1_0))) (by kernel_rfl) hc3 ?_
     refine aa.skip ?_
     refine bN ?_
     change aa _ _ _ _ _
     refine aa.br tied [] [] [] [] (by kernel_rfl) trivial ?_
     exact aB.mk [.an [0,1,7,8] []] (by kernel_rfl) ⟨_,h3,rfl⟩
   ·refine aa.aF (b:=decide (u1_0<(List.length a0:Int))) (by kernel_rfl) hc4 ?_
    refine aa.exit ?_
    refine tE ?_
    refine lE ?_
    refine bE ?_
    obtain rfl:=Option.some.inj h3
    exact jQ.mk [.an [] []] (by kernel_rfl) ⟨_,rfl,rfl⟩
 ·rintro _ ⟨v5,rfl,rfl⟩
  dsimp only at h
  refine aa.af tied [] [] [] [] (by kernel_rfl) trivial ?_
  refine aa.ret ?_
  obtain rfl:=Option.some.inj h
  exact(au [] [some (.int .i64)] (cq 59 []) (by kernel_rfl)).1
def f71(a0:List Int)(a1:Int):Option Bool:=
 Option.bind (f132 a0 a1) fun y1=>some (decide ((0:Int)≤y1))
set_option maxRecDepth 100000 in
theorem K5(a0:List Int)(a1:Int)(r:Bool)(h:f71 a0 a1=some r):Fc Tryz.prog gl 71 [(.val (.slice 8 (.int .i64)) a0),(.val (.int .i64) a1)] (aj (List.replicate 49 none) []) (.ret (.val .bool r)) (aq 49 []):=by
 refine Fc.of Tryz.call71 (bz.aD tied Tryz.func71 rfl rfl (σ0:=ar 9 49 [(0,(.val (.slice 8 (.int .i64)) a0)),(1,(.val (.int .i64) a1))] []) (by kernel_rfl) ?_)
 unfold f71 at h
 refine aa.af tied [] [] [] [] (by kernel_rfl) trivial ?_
 obtain⟨y1,hy2,h⟩:=bind_some h
 refine aa.af tied [⟨(.val (.int .i64) y1),[],[],[],59⟩] [] [] [Fc Tryz.prog gl 132 [(.val (.slice 8 (.int .i64)) a0),(.val (.int .i64) a1)] (aj (List.replicate 59 none) []) (.ret (.val (.int .i64) y1)) (aq 59 [])] (by kernel_rfl) ⟨Jk _ _ _ hy2,trivial⟩ ?_
 refine aa.ret ?_
 obtain rfl:=Option.some.inj h
 exact(au [] [some .bool] (cq 49 []) (by kernel_rfl)).1
def f30(a0:List Int):Option (List Int):=if(List.length ([]:List Int)+List.length a0)*8≤az then some a0 else none
set_option maxRecDepth 100000 in
theorem IM(a0:List Int)(r:List Int)(h:f30 a0=some r):Fc Tryz.prog gl 30 [(.val (.slice 8 (.int .i64)) a0)] (aj (List.replicate 48 none) []) (.ret (.val (.slice 8 (.int .i64)) r)) (aq 48 []):=by
 refine Fc.of Tryz.call30 (bz.aD tied Tryz.func30 rfl rfl (σ0:=ar 8 48 [(0,(.val (.slice 8 (.int .i64)) a0))] []) (by kernel_rfl) ?_)
 unfold f30 at h
 obtain⟨hv,h⟩:=ah h
 obtain rfl:=Option.some.inj h
 refine aa.af tied [] [] [] [] (by kernel_rfl) trivial ?_
 refine aa.seq ?_
 refine aa.zk (.tmp 0) 3 4 24 24 3 8 (.int .i64) a0 rfl rfl rfl rfl rfl rfl (by kernel_rfl) GZ rfl ?_
 intro b hb
 cases b with
 |
  true=>
  have hx:=hb rfl
  subst hx
  refine aa.aE (b:=true) (by kernel_rfl) rfl ?_
  refine aa.af tied [] [] [] [] (by kernel_rfl) trivial ?_
  refine aa.ret ?_
  exact(au [] [some (.slice 8 (.int .i64))] (cq 48 []) (by kernel_rfl)).1
 |
  false=>
  refine aa.aF (b:=false) (by kernel_rfl) rfl ?_
  refine aa.skip ?_
  change aa _ _ _ _ _
  refine aa.af tied [] [] [] [(List.length ([]:List Int)+List.length a0)*8≤az] (by kernel_rfl) ⟨hv,trivial⟩ ?_
  refine aa.ret ?_
  exact(au [.freeze 23 (.slice 8 (.int .i64))] [some (.slice 8 (.int .i64))] (cq 48 []) (by kernel_rfl)).1
def dS(a0:List cI)(a1:List Int)(yf:dz→(List dz)→Option (c6 (List dz) (Nat×(List dz))))(u1_0:Int):Nat→Int→(List dz)→Option (c6 (List dz) (Nat×(List dz)))
 |0,_,_=>none
 |n2+1,u2_0,u2_1=>if(decide (u2_0<(List.length ((((((nth aI a0 u1_0).2).2).2).2).1):Int)))=true then(if 0≤u2_0∧u2_0<(List.length ((((((nth aI a0 u1_0).2).2).2).2).1):Int) then(Option.bind (f30 (((((((nth a8 ((((((nth aI a0 u1_0).2).2).2).2).1) u2_0).2).2).2).2).2).1)) fun y8=>Option.bind (f30 ((((((((nth a8 ((((((nth aI a0 u1_0).2).2).2).2).1) u2_0).2).2).2).2).2).2).1)) fun y10=>Option.bind (yf ((nth aI a0 u1_0).1,((((((((((nth a8 ((((((nth aI a0 u1_0).2).2).2).2).1) u2_0).2).2).2).2).2).2).2).2).1,((((nth aI a0 u1_0).2).1,(((nth a8 ((((((nth aI a0 u1_0).2).2).2).2).1) u2_0).2).1,(y8,(y10,())))),()))) u2_1) fun y12=>match y12 with| .bh y14=>(dS a0 a1 yf u1_0 n2 (aP (u2_0+(1:Int))) y14)| .ret y15=>(some (.ret (y15.1+1,y15.2)))) else none) else(some (.bh u2_1))
def dU(a0:List cI)(a1:List Int)(yf:dz→(List dz)→Option (c6 (List dz) (Nat×(List dz)))):Nat→Int→(List dz)→Option (c6 (List dz) (Nat×(List dz)))
 |0,_,_=>none
 |n1+1,u1_0,u1_1=>if(decide (u1_0<(List.length a0:Int)))=true then(Option.bind (if 0≤u1_0∧u1_0<(List.length a0:Int) then(Option.bind (f71 a1 ((nth aI a0 u1_0).1)) fun y4=>if(!y4)=true then(some (.bh u1_1)) else(Option.bind (dS a0 a1 yf u1_0 (List.length ((((((nth aI a0 u1_0).2).2).2).2).1)+1) (0:Int) u1_1) fun(o6:c6 (List dz) (Nat×(List dz)))=>match o6 with| .bh v17=>(some (.bh v17))| .ret r18=>(some (.ret r18)))) else none) fun(o2:c6 (List dz) (Nat×(List dz)))=>match o2 with| .bh v20=>(dU a0 a1 yf n1 (aP (u1_0+(1:Int))) v20)| .ret r21=>(some (.ret r21))) else(some (.bh u1_1))
def tN(yf:dz→(List dz)→Option (c6 (List dz) (Nat×(List dz))))(a0:List cI)(a1:List Int)(a2:List dz):Option (Nat×(List dz)):=
 Option.bind (dU a0 a1 yf (List.length a0+1) (0:Int) a2) fun(o1:c6 (List dz) (Nat×(List dz)))=>match o1 with| .bh v23=>(some (0,v23))| .ret r24=>(some r24)
set_option maxRecDepth 100000 in
theorem FR(
 B:(Nat→Prop)→World→Prop) (hB:∀{S S':Nat→Prop}{w w':World},(∀b,S b→w'.heap[b]? =w.heap[b]?)→(∀b,S b→S' b)→B S w→B S' w') (l:Nat) (gs:Nat→Nat) (rec:Nat→Loop) (yf:dz→(List dz)→Option (c6 (List dz) (Nat×(List dz)))) (hyf:∀(b1_0:dz)(d1_0:List dz)(y:c6 (List dz) (Nat×(List dz))),yf b1_0 d1_0=some y→Fy Tryz.prog (gl.wB B hB) l [(.val bf b1_0)] (aj (List.replicate 53 none) [(0,some (.lp l (rec 0))),(1,some (.tv (gs 1) (.slice 104 bf) (.own 2))),(2,some (.row 53 104 bf d1_0))]) (.ret (.val .bool (Nat.beq (Fh y) 0))) (aq 53 [(0,(.lp l (rec (Fh y)))),(1,(.tv (gs 1) (.slice 104 bf) (.own 27))),(27,(.row 53 104 bf (GQ y)))])) (a0:List cI) (a1:List Int) (a2:List dz) (r:Nat×(List dz)) (h:tN yf a0 a1 a2=some r):Fc Tryz.prog (gl.wB B hB) 70 [(.func (.yield l) .nil .nil),(.bw (.slice 128 aI) a0),(.bw (.slice 8 (.int .i64)) a1)] (aj (List.replicate 89 none) [(0,some (.lp l (rec 0))),(1,some (.tv (gs 1) (.slice 104 bf) (.own 2))),(2,some (.row 53 104 bf a2))]) (.ret (.c8 .nil)) (aq 89 [(0,(.lp l (rec r.1))),(1,(.tv (gs 1) (.slice 104 bf) (.own 78))),(78,(.row 53 104 bf r.2))]):=by
 refine Fc.of Tryz.call70 (bz.aD tied Tryz.func70 rfl rfl (σ0:=ar 49 89 [(0,(.func (.yield l) .nil .nil)),(1,(.bw (.slice 128 aI) a0)),(2,(.bw (.slice 8 (.int .i64)) a1))] [(0,some (.lp l (rec 0))),(1,some (.tv (gs 1) (.slice 104 bf) (.own 2))),(2,some (.row 53 104 bf a2))]) (by kernel_rfl) ?_)
 unfold tN at h
 refine aa.af tied [] [] [] [] (by kernel_rfl) trivial ?_
 obtain⟨o1,h1,h⟩:=bind_some h
 refine aa.oP (fun σ'=>∃v23,o1= .bh v23∧σ'=ar 49 89 [] [(0,some (.lp l (rec 0))),(1,some (.tv (gs 1) (.slice 104 bf) (.own 74))),(74,some (.row 53 104 bf v23))]) Cl.f ?_ ?_
 ·refine aa.block ?_
  refine aa.aB (fun n σ=>∃(u1_0:Int)(u1_1:List dz),dU a0 a1 yf n u1_0 u1_1=some o1∧σ=ar 49 89 [(0,(.func (.yield l) .nil .nil)),(2,(.bw (.slice 8 (.int .i64)) a1)),(9,(.val (.slice 128 aI) a0)),(10,(.val (.int .i64) (List.length a0:Int))),(11,(.val (.int .i64) u1_0))] [(0,some (.lp l (rec 0))),(1,some (.tv (gs 1) (.slice 104 bf) (.own 70))),(70,some (.row 53 104 bf u1_1))]) [.an [0,2,9,10,11] [0,1,2],.iN 2 70] (by kernel_rfl) ⟨_,_,h1,rfl⟩ ?_
  rintro n1 _ ⟨u1_0,u1_1,h10,rfl⟩
  cases n1 with
  |zero=>exact absurd h10 (by simp[dU])
  |
   succ n1=>
   unfold dU at h10
   refine aa.af tied [] [] [] [] (by kernel_rfl) trivial ?_
   refine aa.seq ?_
   rcases ae h10 with⟨hc22,h10⟩|⟨hc22,h10⟩
   ·refine aa.aE (b:=decide (u1_0<(List.length a0:Int))) (by kernel_rfl) hc22 ?_
    refine aa.skip ?_
    change aa _ _ _ _ _
    obtain⟨o2,h11,h10⟩:=bind_some h10
    refine aa.ba (fun σ'=>∃v20,o2= .bh v20∧σ'=ar 49 89 [(0,(.func (.yield l) .nil .nil)),(2,(.bw (.slice 8 (.int .i64)) a1)),(9,(.val (.slice 128 aI) a0)),(10,(.val (.int .i64) (List.length a0:Int))),(11,(.val (.int .i64) u1_0))] [(0,some (.lp l (rec 0))),(1,some (.tv (gs 1) (.slice 104 bf) (.own 72))),(72,some (.row 53 104 bf v20))]) ?_ ?_
    ·refine aa.block ?_
     obtain⟨hv3,h11⟩:=ah h11
     refine aa.af tied [] [] [] [0≤u1_0,u1_0<(List.length a0:Int)] (by kernel_rfl) ⟨hv3.1,hv3.2,trivial⟩ ?_
     refine aa.seq ?_
     obtain⟨y4,hy5,h11⟩:=bind_some h11
     refine aa.af tied [⟨(.val .bool y4),[],[],[],49⟩] [] [] [Fc Tryz.prog (gl.wB B hB) 71 [(.val (.slice 8 (.int .i64)) a1),(.val (.int .i64) ((nth aI a0 u1_0).1))] (aj (List.replicate 49 none) []) (.ret (.val .bool y4)) (aq 49 [])] (by kernel_rfl) ⟨Fc.up (C:=gl) rfl (fun _ _=>trivial) (K5 _ _ _ hy5),trivial⟩ ?_
     rcases ae h11 with⟨hc19,h11⟩|⟨hc19,h11⟩
     ·refine aa.aE (b:= !y4) (by kernel_rfl) hc19 ?_
      refine aa.exit ?_
      refine tE ?_
      refine bE ?_
      obtain rfl:=Option.some.inj h11
      exact jQ.mk [.an [0,2,9,10,11] [0,1,70],.iN 70 72] (by kernel_rfl) ⟨_,rfl,rfl⟩
     ·refine aa.aF (b:= !y4) (by kernel_rfl) hc19 ?_
      refine aa.skip ?_
      change aa _ _ _ _ _
      refine aa.af tied [] [] [] [] (by kernel_rfl) trivial ?_
      obtain⟨o6,h15,h11⟩:=bind_some h11
      refine aa.oP (fun σ'=>∃v17,o6= .bh v17∧σ'=ar 49 89 [(0,(.func (.yield l) .nil .nil)),(2,(.bw (.slice 8 (.int .i64)) a1)),(9,(.val (.slice 128 aI) a0)),(10,(.val (.int .i64) (List.length a0:Int))),(11,(.val (.int .i64) u1_0))] [(0,some (.lp l (rec 0))),(1,some (.tv (gs 1) (.slice 104 bf) (.own 73))),(73,some (.row 53 104 bf v17))]) (Cl.bL (Cl.j (Cl.loop (Cl.bL (Cl.j Cl.f))))) ?_ ?_
      ·refine aa.block ?_
       refine aa.aB (fun n σ=>∃(u2_0:Int)(u2_1:List dz),dS a0 a1 yf u1_0 n u2_0 u2_1=some o6∧σ=ar 49 89 [(0,(.func (.yield l) .nil .nil)),(2,(.bw (.slice 8 (.int .i64)) a1)),(5,(.ptr 21 [])),(9,(.val (.slice 128 aI) a0)),(10,(.val (.int .i64) (List.length a0:Int))),(11,(.val (.int .i64) u1_0)),(21,(.val (.slice 176 a8) ((((((nth aI a0 u1_0).2).2).2).2).1))),(22,(.val (.int .i64) (List.length ((((((nth aI a0 u1_0).2).2).2).2).1):Int))),(23,(.val (.int .i64) u2_0))] [(0,some (.lp l (rec 0))),(1,some (.tv (gs 1) (.slice 104 bf) (.own 66))),(21,some (.var aI (.val aI (nth aI a0 u1_0)))),(66,some (.row 53 104 bf u2_1))]) [.an [0,2,5,9,10,11,21,22,23] [0,1,21,70],.iN 70 66] (by kernel_rfl) ⟨_,_,h15,rfl⟩ ?_
       rintro n2 _ ⟨u2_0,u2_1,h17,rfl⟩
       cases n2 with
       |zero=>exact absurd h17 (by simp[dS])
       |
        succ n2=>
        unfold dS at h17
        refine aa.af tied [] [] [] [] (by kernel_rfl) trivial ?_
        refine aa.seq ?_
        rcases ae h17 with⟨hc16,h17⟩|⟨hc16,h17⟩
        ·refine aa.aE (b:=decide (u2_0<(List.length ((((((nth aI a0 u1_0).2).2).2).2).1):Int))) (by kernel_rfl) hc16 ?_
         refine aa.skip ?_
         change aa _ _ _ _ _
         refine aa.seq ?_
         refine aa.block ?_
         obtain⟨hv7,h17⟩:=ah h17
         refine aa.af tied [] [] [] [0≤u2_0,u2_0<(List.length ((((((nth aI a0 u1_0).2).2).2).2).1):Int)] (by kernel_rfl) ⟨hv7.1,hv7.2,trivial⟩ ?_
         obtain⟨y8,hy9,h17⟩:=bind_some h17
         obtain⟨y10,hy11,h17⟩:=bind_some h17
         refine aa.gn tied [⟨(.val (.slice 8 (.int .i64)) y8),[],[],[],48⟩,⟨(.val (.slice 8 (.int .i64)) y10),[],[],[],48⟩] [] [] [Fc Tryz.prog (gl.wB B hB) 30 [(.val (.slice 8 (.int .i64)) (((((((nth a8 ((((((nth aI a0 u1_0).2).2).2).2).1) u2_0).2).2).2).2).2).1))] (aj (List.replicate 48 none) []) (.ret (.val (.slice 8 (.int .i64)) y8)) (aq 48 []),Fc Tryz.prog (gl.wB B hB) 30 [(.val (.slice 8 (.int .i64)) ((((((((nth a8 ((((((nth aI a0 u1_0).2).2).2).2).1) u2_0).2).2).2).2).2).2).1))] (aj (List.replicate 48 none) []) (.ret (.val (.slice 8 (.int .i64)) y10)) (aq 48 [])] (by kernel_rfl) ⟨Fc.up (C:=gl) rfl (fun _ _=>trivial) (IM _ _ hy9),Fc.up (C:=gl) rfl (fun _ _=>trivial) (IM _ _ hy11),trivial⟩ ?_
         obtain⟨y12,hy13,h17⟩:=bind_some h17
         cases y12 with
         |
          bh y14=>
          dsimp only at h17
          refine aa.af tied [⟨(.val .bool true),[(0,0),(1,1),(2,66)],[(27,65)],[(0,(.lp l (rec 0))),(1,(.tv (gs 1) (.slice 104 bf) (.own 27))),(27,(.row 53 104 bf y14))],53⟩] [] [] [Fy Tryz.prog (gl.wB B hB) l [(.val bf ((nth aI a0 u1_0).1,((((((((((nth a8 ((((((nth aI a0 u1_0).2).2).2).2).1) u2_0).2).2).2).2).2).2).2).2).1,((((nth aI a0 u1_0).2).1,(((nth a8 ((((((nth aI a0 u1_0).2).2).2).2).1) u2_0).2).1,(y8,(y10,())))),()))))] (aj (List.replicate 53 none) [(0,some (.lp l (rec 0))),(1,some (.tv (gs 1) (.slice 104 bf) (.own 2))),(2,some (.row 53 104 bf u2_1))]) (.ret (.val .bool true)) (aq 53 [(0,(.lp l (rec 0))),(1,(.tv (gs 1) (.slice 104 bf) (.own 27))),(27,(.row 53 104 bf y14))])] (by kernel_rfl) ⟨hyf _ _ _ hy13,trivial⟩ ?_
          refine aa.aF (b:=false) (by kernel_rfl) rfl ?_
          refine aa.skip ?_
          refine bN ?_
          change aa _ _ _ _ _
          refine aa.br tied [] [] [] [] (by kernel_rfl) trivial ?_
          exact aB.mk [.an [0,2,5,9,10,11,21,22,23] [0,1,21,65],.iN 65 66] (by kernel_rfl) ⟨_,_,h17,rfl⟩
         |
          ret y15=>
          dsimp only at h17
          refine aa.af tied [⟨(.val .bool false),[(0,0),(1,1),(2,66)],[(27,65)],[(0,(.lp l (rec (y15.1+1)))),(1,(.tv (gs 1) (.slice 104 bf) (.own 27))),(27,(.row 53 104 bf y15.2))],53⟩] [] [] [Fy Tryz.prog (gl.wB B hB) l [(.val bf ((nth aI a0 u1_0).1,((((((((((nth a8 ((((((nth aI a0 u1_0).2).2).2).2).1) u2_0).2).2).2).2).2).2).2).2).1,((((nth aI a0 u1_0).2).1,(((nth a8 ((((((nth aI a0 u1_0).2).2).2).2).1) u2_0).2).1,(y8,(y10,())))),()))))] (aj (List.replicate 53 none) [(0,some (.lp l (rec 0))),(1,some (.tv (gs 1) (.slice 104 bf) (.own 2))),(2,some (.row 53 104 bf u2_1))]) (.ret (.val .bool false)) (aq 53 [(0,(.lp l (rec (y15.1+1)))),(1,(.tv (gs 1) (.slice 104 bf) (.own 27))),(27,(.row 53 104 bf y15.2))])] (by kernel_rfl) ⟨hyf _ _ _ hy13,trivial⟩ ?_
          refine aa.aE (b:=true) (by kernel_rfl) rfl ?_
          refine aa.ret ?_
          obtain rfl:=Option.some.inj h17
          dsimp only at h11
          obtain rfl:=Option.some.inj h11
          dsimp only at h10
          obtain rfl:=Option.some.inj h10
          dsimp only at h
          obtain rfl:=Option.some.inj h
          exact(au [.an [] [0,1,65],.iN 65 78] [] (cq 89 [0,1,78]) (by kernel_rfl)).1
        ·refine aa.aF (b:=decide (u2_0<(List.length ((((((nth aI a0 u1_0).2).2).2).2).1):Int))) (by kernel_rfl) hc16 ?_
         refine aa.exit ?_
         refine tE ?_
         refine lE ?_
         refine bE ?_
         obtain rfl:=Option.some.inj h17
         exact jQ.mk [.an [0,2,9,10,11] [0,1,66],.iN 66 73] (by kernel_rfl) ⟨_,rfl,rfl⟩
      ·rintro _ ⟨v17,rfl,rfl⟩
       dsimp only at h11
       refine bN ?_
       obtain rfl:=Option.some.inj h11
       exact jQ.mk [.an [0,2,9,10,11] [0,1,73],.iN 73 72] (by kernel_rfl) ⟨_,rfl,rfl⟩
    ·rintro _ ⟨v20,rfl,rfl⟩
     dsimp only at h10
     refine aa.br tied [] [] [] [] (by kernel_rfl) trivial ?_
     exact aB.mk [.an [0,2,9,10,11] [0,1,72],.iN 72 70] (by kernel_rfl) ⟨_,_,h10,rfl⟩
   ·refine aa.aF (b:=decide (u1_0<(List.length a0:Int))) (by kernel_rfl) hc22 ?_
    refine aa.exit ?_
    refine tE ?_
    refine lE ?_
    refine bE ?_
    obtain rfl:=Option.some.inj h10
    exact jQ.mk [.an [] [0,1,70],.iN 70 74] (by kernel_rfl) ⟨_,rfl,rfl⟩
 ·rintro _ ⟨v23,rfl,rfl⟩
  dsimp only at h
  obtain rfl:=Option.some.inj h
  exact(au [.an [] [0,1,74],.iN 74 78] [] (cq 89 [0,1,78]) (by kernel_rfl)).2
def eT(b1_0:dz)(d1_0:List dz):Option (c6 (List dz) (Nat×(List dz))):=
 if(List.length d1_0+List.length [b1_0])*104≤az then(some (.bh (d1_0++[b1_0]))) else none
def tO(a0:List cI)(a1:List Int):Option (List dz):=
 Option.bind (tN (eT) a0 a1 ([]:List dz)) fun y2=>if Nat.beq y2.1 0=true then(some y2.2) else none
set_option maxRecDepth 100000 in
theorem FT(a0:List cI)(a1:List Int)(r:List dz)(h:tO a0 a1=some r):Fc Tryz.prog gl 69 [.cZ,(.func (.func 70) .nil (.cons (.bw (.slice 128 aI) a0) (.cons (.bw (.slice 8 (.int .i64)) a1) .nil)))] (aj (List.replicate 53 none) []) (.ret (.val (.slice 104 bf) r)) (aq 53 []):=by
 refine Fc.of Tryz.call69 (bz.zm tied Tryz.func69 rfl rfl (σ0:=ar 13 53 [(0,.cZ),(1,(.func (.func 70) .nil (.cons (.bw (.slice 128 aI) a0) (.cons (.bw (.slice 8 (.int .i64)) a1) .nil))))] []) (by kernel_rfl) ?_)
 unfold tO at h
 refine aa.af tied [] [] [] [] (by kernel_rfl) trivial ?_
 refine aa.seq ?_
 refine aa.af tied [] [] [] [] (by kernel_rfl) trivial ?_
 refine aa.block ?_
 refine aa.gh [.an [2,4,6] [18],.an [2,4,6] [18],.rk 18 [] 30 53 104 bf] (σ':=ar 13 53 [(2,(.ptr 18 [])),(4,.cZ),(6,(.func (.func 70) .nil (.cons (.bw (.slice 128 aI) a0) (.cons (.bw (.slice 8 (.int .i64)) a1) .nil))))] [(18,some (.var (.slice 104 bf) (.own 30))),(30,some (.row 53 104 bf ([]:List dz)))]) (by kernel_rfl) ?_
 obtain⟨y2,hy3,h⟩:=bind_some h
 refine aa.rangeFunc (gf:=70) (cs:=(.cons (.bw (.slice 128 aI) a0) (.cons (.bw (.slice 8 (.int .i64)) a1) .nil))) rfl (by kernel_rfl) 31 32 0 rfl rfl rfl rfl rfl [(1,(.slice 104 bf))] [(18,1)] rfl (by kernel_rfl) rfl [] y2.1 (fun gs l rec=>⟨(.c8 .nil),[(0,32),(1,18),(2,30)],[(78,33)],[(0,(.lp l (rec y2.1))),(1,(.tv (gs 1) (.slice 104 bf) (.own 78))),(78,(.row 53 104 bf y2.2))],89⟩) (fun l=>[(.func (.yield l) .nil .nil),(.bw (.slice 128 aI) a0),(.bw (.slice 8 (.int .i64)) a1)]) (fun gs l rec=>[(0,some (.lp l (rec 0))),(1,some (.tv (gs 1) (.slice 104 bf) (.own 2))),(2,some (.row 53 104 bf ([]:List dz)))]) (kH [(18,some (.var (.slice 104 bf) (.own 33))),(31,some .oR),(33,some (.row 53 104 bf y2.2))] (List.replicate 53 none)) (fun _ _ _=>rfl) (fun _ _ _=>by kernel_rfl) (fun _ _ _=>by kernel_rfl) (fun _ _ _=>by kernel_rfl) (fun _ _ _=>by kernel_rfl) rfl (fun _ _ _=>⟨by kernel_rfl,by kernel_rfl⟩) ?_ ?_
 ·intro B hB l gs rec hof
  refine FR B hB l gs rec (eT) ?_ _ _ _ _ hy3
  intro b1_0 d1_0 yy h1_
  unfold eT at h1_
  refine hof.use yy [(.val bf b1_0)] (aj (List.replicate 53 none) [(1,some (.var (.slice 104 bf) (.own 2))),(2,some (.row 53 104 bf d1_0))]) (fun d=>aj (List.replicate 53 none) [(1,some (.var (.slice 104 bf) (.own 27))),(27,some (.row 53 104 bf d))]) _ (fun j d=>aq 53 [(0,(.lp l (rec j))),(1,(.tv (gs 1) (.slice 104 bf) (.own 27))),(27,(.row 53 104 bf d))]) rfl rfl (fun _=>rfl) rfl (fun _=>rfl) (by kernel_rfl) (fun _ _=>by kernel_rfl) (σ:=ar 13 53 [(2,(.ptr 1 [])),(4,.cZ),(6,(.func (.func 70) .nil (.cons (.bw (.slice 128 aI) a0) (.cons (.bw (.slice 8 (.int .i64)) a1) .nil)))),(7,(.val bf b1_0))] [(1,some (.var (.slice 104 bf) (.own 2))),(2,some (.row 53 104 bf d1_0))]) (by kernel_rfl) ?_
  refine aa.br tied [] [] [] [] (by kernel_rfl) trivial ?_
  change aa _ _ _ _ _
  refine aa.block ?_
  obtain⟨hv1,h1_⟩:=ah h1_
  refine aa.br tied [] [] [] [(List.length d1_0+List.length [b1_0])*104≤az] (by kernel_rfl) ⟨hv1,trivial⟩ ?_
  refine bN ?_
  obtain rfl:=Option.some.inj h1_
  exact rP.n [.an [] [1,27]] (cq 53 [1,27]) (by kernel_rfl)
 ·rcases ae h with⟨hc4,h⟩|⟨hc4,h⟩
  ·refine KS hc4 (σF:=Cr 13 53 [(2,(.ptr 18 [])),(4,.cZ),(6,(.func (.func 70) .nil (.cons (.bw (.slice 128 aI) a0) (.cons (.bw (.slice 8 (.int .i64)) a1) .nil))))] [(18,some (.var (.slice 104 bf) (.own 33))),(31,some .oR),(33,some (.row 53 104 bf y2.2))] [(.mp 31)]) (by kernel_rfl) ?_
   refine bN ?_
   change aa _ _ _ _ _
   refine aa.af tied [] [] [] [] (by kernel_rfl) trivial ?_
   refine aa.ret ?_
   obtain rfl:=Option.some.inj h
   exact(xV [.freeze 33 (.slice 104 bf)] [some (.slice 104 bf)] (cq 53 []) (by kernel_rfl)).1
  ·cases h
def tP(a0:List cI)(a1:List Int):Option (List dz):=
 Option.bind (tO a0 a1) fun y1=>some y1
set_option maxRecDepth 100000 in
theorem FU(a0:List cI)(a1:List Int)(r:List dz)(h:tP a0 a1=some r):Fc Tryz.prog gl 38 [(.func (.func 70) .nil (.cons (.bw (.slice 128 aI) a0) (.cons (.bw (.slice 8 (.int .i64)) a1) .nil)))] (aj (List.replicate 45 none) []) (.ret (.val (.slice 104 bf) r)) (aq 45 []):=by
 refine Fc.of Tryz.call38 (bz.aD tied Tryz.func38 rfl rfl (σ0:=ar 5 45 [(0,(.func (.func 70) .nil (.cons (.bw (.slice 128 aI) a0) (.cons (.bw (.slice 8 (.int .i64)) a1) .nil))))] []) (by kernel_rfl) ?_)
 unfold tP at h
 refine aa.af tied [] [] [] [] (by kernel_rfl) trivial ?_
 obtain⟨y1,hy2,h⟩:=bind_some h
 refine aa.af tied [⟨(.val (.slice 104 bf) y1),[],[],[],53⟩] [] [] [Fc Tryz.prog gl 69 [.cZ,(.func (.func 70) .nil (.cons (.bw (.slice 128 aI) a0) (.cons (.bw (.slice 8 (.int .i64)) a1) .nil)))] (aj (List.replicate 53 none) []) (.ret (.val (.slice 104 bf) y1)) (aq 53 [])] (by kernel_rfl) ⟨FT _ _ _ hy2,trivial⟩ ?_
 refine aa.ret ?_
 obtain rfl:=Option.some.inj h
 exact(au [] [some (.slice 104 bf)] (cq 45 []) (by kernel_rfl)).1
def f16(a0:List cI)(a1:List Int):Option (List dz):=
 Option.bind (tM a0 a1) fun y1=>Option.bind (tP y1.1 y1.2) fun y3=>some y3
set_option maxRecDepth 100000 in
theorem K6(a0:List cI)(a1:List Int)(r:List dz)(h:f16 a0 a1=some r):Fc Tryz.prog gl 16 [(.val (.slice 128 aI) a0),(.val (.slice 8 (.int .i64)) a1)] (aj (List.replicate 49 none) []) (.ret (.val (.slice 104 bf) r)) (aq 49 []):=by
 refine Fc.of Tryz.call16 (bz.aD tied Tryz.func16 rfl rfl (σ0:=ar 9 49 [(0,(.val (.slice 128 aI) a0)),(1,(.val (.slice 8 (.int .i64)) a1))] []) (by kernel_rfl) ?_)
 unfold f16 at h
 refine aa.af tied [] [] [] [] (by kernel_rfl) trivial ?_
 obtain⟨y1,hy2,h⟩:=bind_some h
 obtain⟨y3,hy4,h⟩:=bind_some h
 refine aa.af tied [⟨(.func (.func 70) .nil (.cons (.ptr 18 []) (.cons (.ptr 19 []) .nil))),[],[(18,23),(19,25)],[(18,(.var (.slice 128 aI) (.val (.slice 128 aI) y1.1))),(19,(.var (.slice 8 (.int .i64)) (.val (.slice 8 (.int .i64)) y1.2)))],46⟩,⟨(.val (.slice 104 bf) y3),[],[],[],45⟩] [] [(3,7,(.aA .func))] [Fc Tryz.prog gl 39 [(.val (.slice 128 aI) a0),(.val (.slice 8 (.int .i64)) a1)] (aj (List.replicate 46 none) []) (.ret (.func (.func 70) .nil (.cons (.ptr 18 []) (.cons (.ptr 19 []) .nil)))) (aq 46 [(18,(.var (.slice 128 aI) (.val (.slice 128 aI) y1.1))),(19,(.var (.slice 8 (.int .i64)) (.val (.slice 8 (.int .i64)) y1.2)))]),Fc Tryz.prog gl 38 [(.func (.func 70) .nil (.cons (.bw (.slice 128 aI) y1.1) (.cons (.bw (.slice 8 (.int .i64)) y1.2) .nil)))] (aj (List.replicate 45 none) []) (.ret (.val (.slice 104 bf) y3)) (aq 45 [])] (by kernel_rfl) ⟨FQ _ _ _ hy2,FU _ _ _ hy4,trivial⟩ ?_
 refine aa.ret ?_
 obtain rfl:=Option.some.inj h
 exact(au [] [some (.slice 104 bf)] (cq 49 []) (by kernel_rfl)).1
end Go.Proofs.YtjabllhapfphoaaGreatDoor
