/- Made by program (dec.py): walks -/
import Derived.Test.YtjabllhapfphoaaGreatDoorE3
namespace Go.Proofs.YtjabllhapfphoaaGreatDoor
open Go.Abs
def jW(a0:List cI)(a1:List Int)(u1_0:Int)(u1_1:List dz):Nat→Bool→Int→Option Bool
 |0,_,_=>none
 |n2+1,u2_0,u2_1=>if(decide (u2_1<(List.length a1:Int)))=true then(Option.bind (if u2_0=true then(some true) else(if 0≤u2_1∧u2_1<(List.length a1:Int) then(if 0≤u1_0∧u1_0<(List.length a0:Int) then(some (decide ((nth (.int .i64) a1 u2_1)=((nth aI a0 u1_0).1)))) else none) else none)) fun(o4:Bool)=>jW a0 a1 u1_0 u1_1 n2 o4 (aP (u2_1+(1:Int)))) else(some u2_0)
def jX(a0:List cI)(a1:List Int)(u1_0:Int)(o3:Bool):Nat→Int→(List dz)→Option (List dz)
 |0,_,_=>none
 |n3+1,u3_0,u3_1=>Option.bind (Option.bind (if o3=true then(if 0≤u1_0∧u1_0<(List.length a0:Int) then(some (decide (u3_0<(List.length ((((((nth aI a0 u1_0).2).2).2).2).1):Int)))) else none) else(some false)) fun(o11:Bool)=>if o11=true then(some (.bh ())) else(some (.ret ()))) fun(o10:c6 Unit Unit)=>match o10 with| .bh _v15=>(if 0≤u1_0∧u1_0<(List.length a0:Int) then(if 0≤u3_0∧u3_0<(List.length ((((((nth aI a0 u1_0).2).2).2).2).1):Int) then(if(List.length u3_1+List.length [((nth aI a0 u1_0).1,((((((((((nth a8 ((((((nth aI a0 u1_0).2).2).2).2).1) u3_0).2).2).2).2).2).2).2).2).1,((((nth aI a0 u1_0).2).1,(((nth a8 ((((((nth aI a0 u1_0).2).2).2).2).1) u3_0).2).1,(((((((nth a8 ((((((nth aI a0 u1_0).2).2).2).2).1) u3_0).2).2).2).2).2).1,((((((((nth a8 ((((((nth aI a0 u1_0).2).2).2).2).1) u3_0).2).2).2).2).2).2).1,())))),())))])*104≤az then(jX a0 a1 u1_0 o3 n3 (aP (u3_0+(1:Int))) (u3_1++[((nth aI a0 u1_0).1,((((((((((nth a8 ((((((nth aI a0 u1_0).2).2).2).2).1) u3_0).2).2).2).2).2).2).2).2).1,((((nth aI a0 u1_0).2).1,(((nth a8 ((((((nth aI a0 u1_0).2).2).2).2).1) u3_0).2).1,(((((((nth a8 ((((((nth aI a0 u1_0).2).2).2).2).1) u3_0).2).2).2).2).2).1,((((((((nth a8 ((((((nth aI a0 u1_0).2).2).2).2).1) u3_0).2).2).2).2).2).2).1,())))),())))])) else none) else none) else none)| .ret _v19=>(some u3_1)
def jY(a0:List cI)(a1:List Int):Nat→Int→(List dz)→Option (List dz)
 |0,_,_=>none
 |n1+1,u1_0,u1_1=>if(decide (u1_0<(List.length a0:Int)))=true then(Option.bind (Option.bind (jW a0 a1 u1_0 u1_1 (bX) false (0:Int)) fun(o3:Bool)=>Option.bind (jX a0 a1 u1_0 o3 (bX) (0:Int) u1_1) fun(o9:List dz)=>some o9) fun(o2:List dz)=>jY a0 a1 n1 (aP (u1_0+(1:Int))) o2) else(some u1_1)
def f17(a0:List cI)(a1:List Int):Option (List dz):=
 Option.bind (jY a0 a1 (bX) (0:Int) ([]:List dz)) fun(o1:List dz)=>some o1
set_option maxRecDepth 100000 in
theorem LQ(a0:List cI)(a1:List Int)(r:List dz)(h:f17 a0 a1=some r):Fc Tryz.prog gl 17 [(.val (.slice 128 aI) a0),(.val (.slice 8 (.int .i64)) a1)] (aj (List.replicate 122 none) []) (.ret (.val (.slice 104 bf) r)) (aq 122 []):=by
 refine Fc.of Tryz.call17 (bz.aD tied Tryz.func17 rfl rfl (σ0:=ar 82 122 [(0,(.val (.slice 128 aI) a0)),(1,(.val (.slice 8 (.int .i64)) a1))] []) (by kernel_rfl) ?_)
 unfold f17 at h
 refine aa.af tied [] [] [] [] (by kernel_rfl) trivial ?_
 refine aa.af tied [] [] [] [] (by kernel_rfl) trivial ?_
 obtain⟨o1,h1,h⟩:=bind_some h
 refine aa.ba (fun σ'=>σ'=ar 82 122 [(5,(.own 105))] [(105,some (.row 53 104 bf o1))]) ?_ ?_
 ·refine aa.af tied [] [] [] [] (by kernel_rfl) trivial ?_
  refine aa.block ?_
  refine aa.aB (fun n σ=>∃(u1_0:Int)(u1_1:List dz),jY a0 a1 n u1_0 u1_1=some o1∧σ=ar 82 122 [(0,(.val (.slice 128 aI) a0)),(1,(.val (.slice 8 (.int .i64)) a1)),(5,(.own 101)),(6,(.val (.int .i64) u1_0))] [(101,some (.row 53 104 bf u1_1))]) [.an [0,1,5,6] [27],.iN 27 101] (by kernel_rfl) ⟨_,_,h1,rfl⟩ ?_
  rintro n1 _ ⟨u1_0,u1_1,h32,rfl⟩
  cases n1 with
  |zero=>exact absurd h32 (by simp[jY])
  |
   succ n1=>
   unfold jY at h32
   refine aa.seq ?_
   refine aa.af tied [] [] [] [] (by kernel_rfl) trivial ?_
   rcases ae h32 with⟨hc20,h32⟩|⟨hc20,h32⟩
   ·refine aa.aE (b:=decide (u1_0<(List.length a0:Int))) (by kernel_rfl) hc20 ?_
    refine aa.skip ?_
    change aa _ _ _ _ _
    obtain⟨o2,h33,h32⟩:=bind_some h32
    refine aa.ba (fun σ'=>σ'=ar 82 122 [(0,(.val (.slice 128 aI) a0)),(1,(.val (.slice 8 (.int .i64)) a1)),(5,(.own 103)),(6,(.val (.int .i64) u1_0))] [(103,some (.row 53 104 bf o2))]) ?_ ?_
    ·refine aa.block ?_
     refine aa.af tied [] [] [] [] (by kernel_rfl) trivial ?_
     obtain⟨o3,h48,h33⟩:=bind_some h33
     refine aa.ba (fun σ'=>σ'=ar 82 122 [(0,(.val (.slice 128 aI) a0)),(1,(.val (.slice 8 (.int .i64)) a1)),(5,(.own 101)),(6,(.val (.int .i64) u1_0)),(7,(.val .bool o3))] [(101,some (.row 53 104 bf u1_1))]) ?_ ?_
     ·refine aa.af tied [] [] [] [] (by kernel_rfl) trivial ?_
      refine aa.block ?_
      refine aa.aB (fun n σ=>∃(u2_0:Bool)(u2_1:Int),jW a0 a1 u1_0 u1_1 n u2_0 u2_1=some o3∧σ=ar 82 122 [(0,(.val (.slice 128 aI) a0)),(1,(.val (.slice 8 (.int .i64)) a1)),(5,(.own 101)),(6,(.val (.int .i64) u1_0)),(7,(.val .bool u2_0)),(8,(.val (.int .i64) u2_1))] [(101,some (.row 53 104 bf u1_1))]) [.an [0,1,5,6,7,8] [101]] (by kernel_rfl) ⟨_,_,h48,rfl⟩ ?_
      rintro n2 _ ⟨u2_0,u2_1,h51,rfl⟩
      cases n2 with
      |zero=>exact absurd h51 (by simp[jW])
      |
       succ n2=>
       unfold jW at h51
       refine aa.seq ?_
       refine aa.af tied [] [] [] [] (by kernel_rfl) trivial ?_
       rcases ae h51 with⟨hc8,h51⟩|⟨hc8,h51⟩
       ·refine aa.aE (b:=decide (u2_1<(List.length a1:Int))) (by kernel_rfl) hc8 ?_
        refine aa.skip ?_
        change aa _ _ _ _ _
        obtain⟨o4,h52,h51⟩:=bind_some h51
        refine aa.ba (fun σ'=>σ'=ar 82 122 [(0,(.val (.slice 128 aI) a0)),(1,(.val (.slice 8 (.int .i64)) a1)),(5,(.own 101)),(6,(.val (.int .i64) u1_0)),(7,(.val .bool o4)),(8,(.val (.int .i64) u2_1))] [(101,some (.row 53 104 bf u1_1))]) ?_ ?_
        ·refine aa.block ?_
         rcases ae h52 with⟨hg5,h52⟩|⟨hg5,h52⟩
         ·refine aa.gk tied [] [true] [] [u2_0=true] (by kernel_rfl) ⟨hg5,trivial⟩ ?_
          refine bN ?_
          obtain rfl:=Option.some.inj h52
          exact jQ.mk [.an [0,1,5,6,7,8] [101]] (by kernel_rfl) rfl
         ·obtain⟨hv6,h52⟩:=ah h52
          obtain⟨hv7,h52⟩:=ah h52
          refine aa.gk tied [] [false] [] [u2_0=false,0≤u2_1,u2_1<(List.length a1:Int),0≤u1_0,u1_0<(List.length a0:Int)] (by kernel_rfl) ⟨hg5,hv6.1,hv6.2,hv7.1,hv7.2,trivial⟩ ?_
          refine bN ?_
          obtain rfl:=Option.some.inj h52
          exact jQ.mk [.an [0,1,5,6,7,8] [101]] (by kernel_rfl) rfl
        ·rintro _ rfl
         refine aa.br tied [] [] [] [] (by kernel_rfl) trivial ?_
         exact aB.mk [.an [0,1,5,6,7,8] [101]] (by kernel_rfl) ⟨_,_,h51,rfl⟩
       ·refine aa.aF (b:=decide (u2_1<(List.length a1:Int))) (by kernel_rfl) hc8 ?_
        refine aa.exit ?_
        refine tE ?_
        refine lE ?_
        refine bE ?_
        obtain rfl:=Option.some.inj h51
        exact jQ.mk [.an [0,1,5,6,7] [101]] (by kernel_rfl) rfl
     ·rintro _ rfl
      refine aa.af tied [] [] [] [] (by kernel_rfl) trivial ?_
      obtain⟨o9,h53,h33⟩:=bind_some h33
      refine aa.oP (fun σ'=>σ'=ar 82 122 [(0,(.val (.slice 128 aI) a0)),(1,(.val (.slice 8 (.int .i64)) a1)),(5,(.own 104)),(6,(.val (.int .i64) u1_0))] [(104,some (.row 53 104 bf o9))]) (Cl.bL (Cl.j (Cl.loop (Cl.bL (Cl.j Cl.f))))) ?_ ?_
      ·refine aa.block ?_
       refine aa.aB (fun n σ=>∃(u3_0:Int)(u3_1:List dz),jX a0 a1 u1_0 o3 n u3_0 u3_1=some o9∧σ=ar 82 122 [(0,(.val (.slice 128 aI) a0)),(1,(.val (.slice 8 (.int .i64)) a1)),(5,(.own 98)),(6,(.val (.int .i64) u1_0)),(7,(.val .bool o3)),(9,(.val (.int .i64) u3_0))] [(98,some (.row 53 104 bf u3_1))]) [.an [0,1,5,6,7,9] [101],.iN 101 98] (by kernel_rfl) ⟨_,_,h53,rfl⟩ ?_
       rintro n3 _ ⟨u3_0,u3_1,h58,rfl⟩
       cases n3 with
       |zero=>exact absurd h58 (by simp[jX])
       |
        succ n3=>
        unfold jX at h58
        obtain⟨o10,h59,h58⟩:=bind_some h58
        refine aa.Iw (fun σ'=>∃v15,o10= .bh v15∧σ'=ar 82 122 [(0,(.val (.slice 128 aI) a0)),(1,(.val (.slice 8 (.int .i64)) a1)),(5,(.own 98)),(6,(.val (.int .i64) u1_0)),(7,(.val .bool o3)),(9,(.val (.int .i64) u3_0))] [(98,some (.row 53 104 bf u3_1))]) (fun i σ'=>(i=4∧∃v19,o10= .ret v19∧σ'=ar 82 122 [(0,(.val (.slice 128 aI) a0)),(1,(.val (.slice 8 (.int .i64)) a1)),(5,(.own 98)),(6,(.val (.int .i64) u1_0))] [(98,some (.row 53 104 bf u3_1))])) (Cl.loop (Cl.bL (Cl.j (Cl.bL (Cl.j (Cl.loop (Cl.bL (Cl.j Cl.f)))))))) ?_ ?_ ?_
        ·obtain⟨o11,h61,h59⟩:=bind_some h59
         refine aa.ba (fun σ'=>σ'=ar 82 122 [(0,(.val (.slice 128 aI) a0)),(1,(.val (.slice 8 (.int .i64)) a1)),(5,(.own 98)),(6,(.val (.int .i64) u1_0)),(7,(.val .bool o3)),(9,(.val (.int .i64) u3_0)),(47,(.val .bool o11))] [(98,some (.row 53 104 bf u3_1))]) ?_ ?_
         ·rcases ae h61 with⟨hg12,h61⟩|⟨hg12,h61⟩
          ·obtain⟨hv13,h61⟩:=ah h61
           refine aa.br tied [] [true] [] [o3=true,0≤u1_0,u1_0<(List.length a0:Int)] (by kernel_rfl) ⟨hg12,hv13.1,hv13.2,trivial⟩ ?_
           obtain rfl:=Option.some.inj h61
           exact jQ.mk [.an [0,1,5,6,7,9,47] [98]] (by kernel_rfl) rfl
          ·refine aa.br tied [] [false] [] [o3=false] (by kernel_rfl) ⟨hg12,trivial⟩ ?_
           obtain rfl:=Option.some.inj h61
           exact jQ.mk [.an [0,1,5,6,7,9,47] [98]] (by kernel_rfl) rfl
         ·rintro _ rfl
          rcases ae h59 with⟨hc14,h59⟩|⟨hc14,h59⟩
          ·refine aa.aE (b:=o11) (by kernel_rfl) hc14 ?_
           refine aa.skip ?_
           obtain rfl:=Option.some.inj h59
           exact EC.mk [.an [0,1,5,6,7,9] [98]] (by kernel_rfl) ⟨_,rfl,rfl⟩
          ·refine aa.aF (b:=o11) (by kernel_rfl) hc14 ?_
           refine aa.exit ?_
           obtain rfl:=Option.some.inj h59
           exact EC.ex [.an [0,1,5,6] [98]] (by kernel_rfl) ⟨rfl,_,rfl,rfl⟩
        ·rintro _ _ ⟨rfl,v19,rfl,rfl⟩
         ·dsimp only at h58
          refine lE ?_
          refine bE ?_
          obtain rfl:=Option.some.inj h58
          exact jQ.mk [.an [0,1,5,6] [98],.iN 98 104] (by kernel_rfl) rfl
        ·rintro _ ⟨v15,rfl,rfl⟩
         dsimp only at h58
         refine aa.seq ?_
         refine aa.block ?_
         obtain⟨hv16,h58⟩:=ah h58
         obtain⟨hv17,h58⟩:=ah h58
         refine aa.af tied [] [] [] [0≤u1_0,u1_0<(List.length a0:Int),0≤u3_0,u3_0<(List.length ((((((nth aI a0 u1_0).2).2).2).2).1):Int)] (by kernel_rfl) ⟨hv16.1,hv16.2,hv17.1,hv17.2,trivial⟩ ?_
         obtain⟨hv18,h58⟩:=ah h58
         refine aa.gk tied [] [] [] [0≤u1_0,u1_0<(List.length a0:Int),0≤u1_0,u1_0<(List.length a0:Int),(List.length u3_1+List.length [((nth aI a0 u1_0).1,((((((((((nth a8 ((((((nth aI a0 u1_0).2).2).2).2).1) u3_0).2).2).2).2).2).2).2).2).1,((((nth aI a0 u1_0).2).1,(((nth a8 ((((((nth aI a0 u1_0).2).2).2).2).1) u3_0).2).1,(((((((nth a8 ((((((nth aI a0 u1_0).2).2).2).2).1) u3_0).2).2).2).2).2).1,((((((((nth a8 ((((((nth aI a0 u1_0).2).2).2).2).1) u3_0).2).2).2).2).2).2).1,())))),())))])*104≤az] (by kernel_rfl) ⟨hv16.1,hv16.2,hv16.1,hv16.2,hv18,trivial⟩ ?_
         refine bN ?_
         change aa _ _ _ _ _
         refine aa.br tied [] [] [] [] (by kernel_rfl) trivial ?_
         exact aB.mk [.an [0,1,5,6,7,9] [96],.iN 96 98] (by kernel_rfl) ⟨_,_,h58,rfl⟩
      ·rintro _ rfl
       refine bN ?_
       obtain rfl:=Option.some.inj h33
       exact jQ.mk [.an [0,1,5,6] [104],.iN 104 103] (by kernel_rfl) rfl
    ·rintro _ rfl
     refine aa.br tied [] [] [] [] (by kernel_rfl) trivial ?_
     exact aB.mk [.an [0,1,5,6] [103],.iN 103 101] (by kernel_rfl) ⟨_,_,h32,rfl⟩
   ·refine aa.aF (b:=decide (u1_0<(List.length a0:Int))) (by kernel_rfl) hc20 ?_
    refine aa.exit ?_
    refine tE ?_
    refine lE ?_
    refine bE ?_
    obtain rfl:=Option.some.inj h32
    exact jQ.mk [.an [5] [101],.iN 101 105] (by kernel_rfl) rfl
 ·rintro _ rfl
  refine aa.af tied [] [] [] [] (by kernel_rfl) trivial ?_
  refine aa.ret ?_
  obtain rfl:=Option.some.inj h
  exact(au [.freeze 105 (.slice 104 bf)] [some (.slice 104 bf)] (cq 122 []) (by kernel_rfl)).1
def kP(a0:List dz)(a1:List dz):Nat→Int→Option (c6 Unit Bool)
 |0,_=>none
 |n1+1,u1_0=>if(decide (u1_0<(List.length a0:Int)))=true then(Option.bind (if 0≤u1_0∧u1_0<(List.length a0:Int) then(if u1_0<(List.length a1:Int) then(Option.bind (if(!decide (((nth bf a0 u1_0).1)=((nth bf a1 u1_0).1)))=true then(some true) else(if(!av ao (((nth bf a0 u1_0).2).1) (((nth bf a1 u1_0).2).1))=true then(some true) else(if(!decide ((((((nth bf a0 u1_0).2).2).1).1)=(((((nth bf a1 u1_0).2).2).1).1)))=true then(some true) else(if(!decide (((((((nth bf a0 u1_0).2).2).1).2).1)=((((((nth bf a1 u1_0).2).2).1).2).1)))=true then(some true) else(Option.bind (f29 (((((((nth bf a0 u1_0).2).2).1).2).2).1) (((((((nth bf a1 u1_0).2).2).1).2).2).1)) fun y10=>if(!y10)=true then(some true) else(Option.bind (f29 ((((((((nth bf a0 u1_0).2).2).1).2).2).2).1) ((((((((nth bf a1 u1_0).2).2).1).2).2).2).1)) fun y13=>some (!y13))))))) fun(o5:Bool)=>if o5=true then(some (.ret false)) else(some (.bh ()))) else none) else none) fun(o2:c6 Unit Bool)=>match o2 with| .bh _v16=>(kP a0 a1 n1 (aP (u1_0+(1:Int))))| .ret r17=>(some (.ret r17))) else(some (.bh ()))
def f15(a0:List dz)(a1:List dz):Option Bool:=
 if(!decide ((List.length a0:Int)=(List.length a1:Int)))=true then(some false) else(Option.bind (kP a0 a1 (bX) (0:Int)) fun(o1:c6 Unit Bool)=>match o1 with| .bh _v19=>(some true)| .ret r20=>(some r20))
set_option maxRecDepth 100000 in
theorem uG(a0:List dz)(a1:List dz)(r:Bool)(h:f15 a0 a1=some r):Fc Tryz.prog gl 15 [(.val (.slice 104 bf) a0),(.val (.slice 104 bf) a1)] (aj (List.replicate 123 none) []) (.ret (.val .bool r)) (aq 123 []):=by
 refine Fc.of Tryz.call15 (bz.aD tied Tryz.func15 rfl rfl (σ0:=ar 83 123 [(0,(.val (.slice 104 bf) a0)),(1,(.val (.slice 104 bf) a1))] []) (by kernel_rfl) ?_)
 unfold f15 at h
 refine aa.af tied [] [] [] [] (by kernel_rfl) trivial ?_
 refine aa.seq ?_
 refine aa.af tied [] [] [] [] (by kernel_rfl) trivial ?_
 rcases ae h with⟨hc21,h⟩|⟨hc21,h⟩
 ·refine aa.aE (b:= !decide ((List.length a0:Int)=(List.length a1:Int))) (by kernel_rfl) hc21 ?_
  refine aa.af tied [] [] [] [] (by kernel_rfl) trivial ?_
  refine aa.ret ?_
  obtain rfl:=Option.some.inj h
  exact(au [] [some .bool] (cq 123 []) (by kernel_rfl)).1
 ·refine aa.aF (
   b:= !decide ((List.length a0:Int)=(List.length a1:Int))) (by kernel_rfl) hc21 ?_
  refine aa.skip ?_
  change aa _ _ _ _ _
  obtain⟨o1,h1,h⟩:=bind_some h
  refine aa.ba (fun σ'=>∃v19,o1= .bh v19∧σ'=ar 83 123 [] []) ?_ ?_
  ·refine aa.af tied [] [] [] [] (by kernel_rfl) trivial ?_
   refine aa.block ?_
   refine aa.aB (fun n σ=>∃(u1_0:Int),kP a0 a1 n u1_0=some o1∧σ=ar 83 123 [(0,(.val (.slice 104 bf) a0)),(1,(.val (.slice 104 bf) a1)),(5,(.val (.int .i64) u1_0))] []) [.an [0,1,5] []] (by kernel_rfl) ⟨_,h1,rfl⟩ ?_
   rintro n1 _ ⟨u1_0,h6,rfl⟩
   cases n1 with
   |zero=>exact absurd h6 (by simp[kP])
   |
    succ n1=>
    unfold kP at h6
    refine aa.seq ?_
    refine aa.af tied [] [] [] [] (by kernel_rfl) trivial ?_
    rcases ae h6 with⟨hc18,h6⟩|⟨hc18,h6⟩
    ·refine aa.aE (b:=decide (u1_0<(List.length a0:Int))) (by kernel_rfl) hc18 ?_
     refine aa.skip ?_
     change aa _ _ _ _ _
     obtain⟨o2,h7,h6⟩:=bind_some h6
     refine aa.ba (fun σ'=>∃v16,o2= .bh v16∧σ'=ar 83 123 [(0,(.val (.slice 104 bf) a0)),(1,(.val (.slice 104 bf) a1)),(5,(.val (.int .i64) u1_0))] []) ?_ ?_
     ·refine aa.block ?_
      obtain⟨hv3,h7⟩:=ah h7
      refine aa.af tied [] [] [] [0≤u1_0,u1_0<(List.length a0:Int)] (by kernel_rfl) ⟨hv3.1,hv3.2,trivial⟩ ?_
      obtain⟨hv4,h7⟩:=ah h7
      refine aa.af tied [] [] [] [0≤u1_0,u1_0<(List.length a1:Int)] (by kernel_rfl) ⟨hv3.1,hv4,trivial⟩ ?_
      obtain⟨o5,h9,h7⟩:=bind_some h7
      refine aa.ba (fun σ'=>σ'=ar 83 123 [(0,(.val (.slice 104 bf) a0)),(1,(.val (.slice 104 bf) a1)),(5,(.val (.int .i64) u1_0)),(82,(.val .bool o5))] []) ?_ ?_
      ·rcases ae h9 with⟨hg6,h9⟩|⟨hg6,h9⟩
       ·refine aa.gk tied [] [true,true,true,true,true] [] [0≤u1_0,u1_0<(List.length a0:Int),0≤u1_0,u1_0<(List.length a1:Int),(!decide (((nth bf a0 u1_0).1)=((nth bf a1 u1_0).1)))=true,true=true,true=true,true=true,true=true] (by kernel_rfl) ⟨hv3.1,hv3.2,hv3.1,hv4,hg6,rfl,rfl,rfl,rfl,trivial⟩ ?_
        obtain rfl:=Option.some.inj h9
        exact jQ.mk [.an [0,1,5,82] []] (by kernel_rfl) rfl
       ·rcases ae h9 with⟨hg7,h9⟩|⟨hg7,h9⟩
        ·refine aa.gk tied [] [false,true,true,true,true] [] [0≤u1_0,u1_0<(List.length a0:Int),0≤u1_0,u1_0<(List.length a1:Int),(!decide (((nth bf a0 u1_0).1)=((nth bf a1 u1_0).1)))=false,0≤u1_0,u1_0<(List.length a0:Int),0≤u1_0,u1_0<(List.length a1:Int),bG Tryz.prog G 40 28 ao=true,Tryz.prog.eqGuardType Tryz.prog.depth 28=false,(!av ao (((nth bf a0 u1_0).2).1) (((nth bf a1 u1_0).2).1))=true,true=true,true=true,true=true] (by kernel_rfl) ⟨hv3.1,hv3.2,hv3.1,hv4,hg6,hv3.1,hv3.2,hv3.1,hv4,bn,bx,hg7,rfl,rfl,rfl,trivial⟩ ?_
         obtain rfl:=Option.some.inj h9
         exact jQ.mk [.an [0,1,5,82] []] (by kernel_rfl) rfl
        ·rcases ae h9 with⟨hg8,h9⟩|⟨hg8,h9⟩
         ·refine aa.gk tied [] [false,false,true,true,true] [] [0≤u1_0,u1_0<(List.length a0:Int),0≤u1_0,u1_0<(List.length a1:Int),(!decide (((nth bf a0 u1_0).1)=((nth bf a1 u1_0).1)))=false,0≤u1_0,u1_0<(List.length a0:Int),0≤u1_0,u1_0<(List.length a1:Int),bG Tryz.prog G 40 28 ao=true,Tryz.prog.eqGuardType Tryz.prog.depth 28=false,(!av ao (((nth bf a0 u1_0).2).1) (((nth bf a1 u1_0).2).1))=false,(!decide ((((((nth bf a0 u1_0).2).2).1).1)=(((((nth bf a1 u1_0).2).2).1).1)))=true,true=true,true=true] (by kernel_rfl) ⟨hv3.1,hv3.2,hv3.1,hv4,hg6,hv3.1,hv3.2,hv3.1,hv4,bn,bx,hg7,hg8,rfl,rfl,trivial⟩ ?_
          obtain rfl:=Option.some.inj h9
          exact jQ.mk [.an [0,1,5,82] []] (by kernel_rfl) rfl
         ·rcases ae h9 with⟨hg9,h9⟩|⟨hg9,h9⟩
          ·refine aa.gk tied [] [false,false,false,true,true] [] [0≤u1_0,u1_0<(List.length a0:Int),0≤u1_0,u1_0<(List.length a1:Int),(!decide (((nth bf a0 u1_0).1)=((nth bf a1 u1_0).1)))=false,0≤u1_0,u1_0<(List.length a0:Int),0≤u1_0,u1_0<(List.length a1:Int),bG Tryz.prog G 40 28 ao=true,Tryz.prog.eqGuardType Tryz.prog.depth 28=false,(!av ao (((nth bf a0 u1_0).2).1) (((nth bf a1 u1_0).2).1))=false,(!decide ((((((nth bf a0 u1_0).2).2).1).1)=(((((nth bf a1 u1_0).2).2).1).1)))=false,(!decide (((((((nth bf a0 u1_0).2).2).1).2).1)=((((((nth bf a1 u1_0).2).2).1).2).1)))=true,true=true] (by kernel_rfl) ⟨hv3.1,hv3.2,hv3.1,hv4,hg6,hv3.1,hv3.2,hv3.1,hv4,bn,bx,hg7,hg8,hg9,rfl,trivial⟩ ?_
           obtain rfl:=Option.some.inj h9
           exact jQ.mk [.an [0,1,5,82] []] (by kernel_rfl) rfl
          ·obtain⟨y10,hy11,h9⟩:=bind_some h9
           rcases ae h9 with⟨hg12,h9⟩|⟨hg12,h9⟩
           ·refine aa.gk tied [⟨(.val .bool y10),[],[],[],66⟩] [false,false,false,false,true] [] [0≤u1_0,u1_0<(List.length a0:Int),0≤u1_0,u1_0<(List.length a1:Int),(!decide (((nth bf a0 u1_0).1)=((nth bf a1 u1_0).1)))=false,0≤u1_0,u1_0<(List.length a0:Int),0≤u1_0,u1_0<(List.length a1:Int),bG Tryz.prog G 40 28 ao=true,Tryz.prog.eqGuardType Tryz.prog.depth 28=false,(!av ao (((nth bf a0 u1_0).2).1) (((nth bf a1 u1_0).2).1))=false,(!decide ((((((nth bf a0 u1_0).2).2).1).1)=(((((nth bf a1 u1_0).2).2).1).1)))=false,(!decide (((((((nth bf a0 u1_0).2).2).1).2).1)=((((((nth bf a1 u1_0).2).2).1).2).1)))=false,Fc Tryz.prog gl 29 [(.val (.slice 8 (.int .i64)) (((((((nth bf a0 u1_0).2).2).1).2).2).1)),(.val (.slice 8 (.int .i64)) (((((((nth bf a1 u1_0).2).2).1).2).2).1))] (aj (List.replicate 66 none) []) (.ret (.val .bool y10)) (aq 66 []),(!y10)=true] (by kernel_rfl) ⟨hv3.1,hv3.2,hv3.1,hv4,hg6,hv3.1,hv3.2,hv3.1,hv4,bn,bx,hg7,hg8,hg9,GM _ _ _ hy11,hg12,trivial⟩ ?_
            obtain rfl:=Option.some.inj h9
            exact jQ.mk [.an [0,1,5,82] []] (by kernel_rfl) rfl
           ·obtain⟨y13,hy14,h9⟩:=bind_some h9
            refine aa.gk tied [⟨(.val .bool y10),[],[],[],66⟩,⟨(.val .bool y13),[],[],[],66⟩] [false,false,false,false,false] [] [0≤u1_0,u1_0<(List.length a0:Int),0≤u1_0,u1_0<(List.length a1:Int),(!decide (((nth bf a0 u1_0).1)=((nth bf a1 u1_0).1)))=false,0≤u1_0,u1_0<(List.length a0:Int),0≤u1_0,u1_0<(List.length a1:Int),bG Tryz.prog G 40 28 ao=true,Tryz.prog.eqGuardType Tryz.prog.depth 28=false,(!av ao (((nth bf a0 u1_0).2).1) (((nth bf a1 u1_0).2).1))=false,(!decide ((((((nth bf a0 u1_0).2).2).1).1)=(((((nth bf a1 u1_0).2).2).1).1)))=false,(!decide (((((((nth bf a0 u1_0).2).2).1).2).1)=((((((nth bf a1 u1_0).2).2).1).2).1)))=false,Fc Tryz.prog gl 29 [(.val (.slice 8 (.int .i64)) (((((((nth bf a0 u1_0).2).2).1).2).2).1)),(.val (.slice 8 (.int .i64)) (((((((nth bf a1 u1_0).2).2).1).2).2).1))] (aj (List.replicate 66 none) []) (.ret (.val .bool y10)) (aq 66 []),(!y10)=false,Fc Tryz.prog gl 29 [(.val (.slice 8 (.int .i64)) ((((((((nth bf a0 u1_0).2).2).1).2).2).2).1)),(.val (.slice 8 (.int .i64)) ((((((((nth bf a1 u1_0).2).2).1).2).2).2).1))] (aj (List.replicate 66 none) []) (.ret (.val .bool y13)) (aq 66 [])] (by kernel_rfl) ⟨hv3.1,hv3.2,hv3.1,hv4,hg6,hv3.1,hv3.2,hv3.1,hv4,bn,bx,hg7,hg8,hg9,GM _ _ _ hy11,hg12,GM _ _ _ hy14,trivial⟩ ?_
            obtain rfl:=Option.some.inj h9
            exact jQ.mk [.an [0,1,5,82] []] (by kernel_rfl) rfl
      ·rintro _ rfl
       rcases ae h7 with⟨hc15,h7⟩|⟨hc15,h7⟩
       ·refine aa.aE (b:=o5) (by kernel_rfl) hc15 ?_
        refine aa.af tied [] [] [] [] (by kernel_rfl) trivial ?_
        refine aa.ret ?_
        obtain rfl:=Option.some.inj h7
        dsimp only at h6
        obtain rfl:=Option.some.inj h6
        dsimp only at h
        obtain rfl:=Option.some.inj h
        exact(au [] [some .bool] (cq 123 []) (by kernel_rfl)).1
       ·refine aa.aF (b:=o5) (by kernel_rfl) hc15 ?_
        refine aa.skip ?_
        refine bN ?_
        obtain rfl:=Option.some.inj h7
        exact jQ.mk [.an [0,1,5] []] (by kernel_rfl) ⟨_,rfl,rfl⟩
     ·rintro _ ⟨v16,rfl,rfl⟩
      dsimp only at h6
      refine aa.br tied [] [] [] [] (by kernel_rfl) trivial ?_
      exact aB.mk [.an [0,1,5] []] (by kernel_rfl) ⟨_,h6,rfl⟩
    ·refine aa.aF (b:=decide (u1_0<(List.length a0:Int))) (by kernel_rfl) hc18 ?_
     refine aa.exit ?_
     refine tE ?_
     refine lE ?_
     refine bE ?_
     obtain rfl:=Option.some.inj h6
     exact jQ.mk [.an [] []] (by kernel_rfl) ⟨_,rfl,rfl⟩
  ·rintro _ ⟨v19,rfl,rfl⟩
   dsimp only at h
   refine aa.af tied [] [] [] [] (by kernel_rfl) trivial ?_
   refine aa.ret ?_
   obtain rfl:=Option.some.inj h
   exact(au [] [some .bool] (cq 123 []) (by kernel_rfl)).1
def nF(a0:List cI)(a1:List eu)(a2:List Int):Nat→Int→Option (c6 Unit Bool)
 |0,_=>none
 |n1+1,u1_0=>if(decide (u1_0<(List.length a0:Int)))=true then(Option.bind (if 0≤u1_0∧u1_0<(List.length a0:Int) then(Option.bind (f7 (nth aI a0 u1_0) a1) fun y14=>Option.bind (f8 (nth aI a0 u1_0) a1) fun y16=>Option.bind (Option.bind (f10 (nth aI a0 u1_0)) fun y19=>Option.bind (f11 (nth aI a0 u1_0)) fun y21=>Option.bind (f9 y19 y21) fun y23=>if(!y23)=true then(some true) else(Option.bind (f12 y14.1 y16.1) fun y26=>if(!y26)=true then(some true) else(if(!decide (y14.2=y16.2))=true then(some true) else(if(0:Int)<(List.length a0:Int) then(Option.bind (f13 (nth aI a0 u1_0) (nth aI a0 (0:Int))) fun y31=>Option.bind (f14 (nth aI a0 u1_0) (nth aI a0 (0:Int))) fun y33=>if(!(y31==y33))=true then(some true) else(Option.bind (f13 (nth aI a0 u1_0) (nth aI a0 u1_0)) fun y36=>some (!y36))) else none)))) fun(o18:Bool)=>if o18=true then(some (.ret false)) else(some (.bh ()))) else none) fun(o12:c6 Unit Bool)=>match o12 with| .bh _v39=>(nF a0 a1 a2 n1 (aP (u1_0+(1:Int))))| .ret r40=>(some (.ret r40))) else(some (.bh ()))
def f3(a0:List cI)(a1:List eu)(a2:List Int):Option Bool:=
 Option.bind (f5) fun y1=>if(!y1)=true then(some false) else(Option.bind (Option.bind (Option.bind (f6 a0) fun y5=>if(!y5)=true then(some true) else(if(decide ((6:Int)<(List.length a1:Int)))=true then(some true) else(some (decide ((12:Int)<(List.length a2:Int)))))) fun(o4:Bool)=>if o4=true then(some (.ret true)) else(some (.bh ()))) fun(o3:c6 Unit Bool)=>match o3 with| .bh _v10=>(Option.bind (nF a0 a1 a2 (List.length a0+1) (0:Int)) fun(o11:c6 Unit Bool)=>match o11 with| .bh _v42=>(Option.bind (f16 a0 a2) fun y43=>Option.bind (f17 a0 a2) fun y45=>Option.bind (f15 y43 y45) fun y47=>some y47)| .ret r49=>(some r49))| .ret r50=>(some r50))
set_option maxRecDepth 100000 in
theorem x3(
 a0:List cI) (a1:List eu) (a2:List Int) (r:Bool) (h:f3 a0 a1 a2=some r):Fc Tryz.prog gl 3 [(.val (.slice 128 aI) a0),(.val (.slice 56 cn) a1),(.val (.slice 8 (.int .i64)) a2)] (aj (List.replicate 134 none) []) (.ret (.val .bool r)) (aq 134 []):=by
 refine Fc.of Tryz.call3 (bz.aD tied Tryz.func3 rfl rfl (σ0:=ar 94 134 [(0,(.val (.slice 128 aI) a0)),(1,(.val (.slice 56 cn) a1)),(2,(.val (.slice 8 (.int .i64)) a2))] []) (by kernel_rfl) ?_)
 unfold f3 at h
 refine aa.af tied [] [] [] [] (by kernel_rfl) trivial ?_
 refine aa.seq ?_
 obtain⟨y1,hy2,h⟩:=bind_some h
 refine aa.af tied [⟨(.val .bool y1),[],[],[],281⟩] [] [] [Fc Tryz.prog gl 5 [] (aj (List.replicate 281 none) []) (.ret (.val .bool y1)) (aq 281 [])] (by kernel_rfl) ⟨x5 _ hy2,trivial⟩ ?_
 rcases ae h with⟨hc51,h⟩|⟨hc51,h⟩
 ·refine aa.aE (b:= !y1) (by kernel_rfl) hc51 ?_
  refine aa.af tied [] [] [] [] (by kernel_rfl) trivial ?_
  refine aa.ret ?_
  obtain rfl:=Option.some.inj h
  exact(au [] [some .bool] (cq 134 []) (by kernel_rfl)).1
 ·refine aa.aF (
   b:= !y1) (by kernel_rfl) hc51 ?_
  refine aa.skip ?_
  change aa _ _ _ _ _
  obtain⟨o3,h1,h⟩:=bind_some h
  refine aa.ba (fun σ'=>∃v10,o3= .bh v10∧σ'=ar 94 134 [(0,(.val (.slice 128 aI) a0)),(1,(.val (.slice 56 cn) a1)),(2,(.val (.slice 8 (.int .i64)) a2))] []) ?_ ?_
  ·obtain⟨o4,h3,h1⟩:=bind_some h1
   refine aa.ba (fun σ'=>σ'=ar 94 134 [(0,(.val (.slice 128 aI) a0)),(1,(.val (.slice 56 cn) a1)),(2,(.val (.slice 8 (.int .i64)) a2)),(27,(.val .bool o4))] []) ?_ ?_
   ·obtain⟨y5,hy6,h3⟩:=bind_some h3
    rcases ae h3 with⟨hg7,h3⟩|⟨hg7,h3⟩
    ·refine aa.br tied [⟨(.val .bool y5),[],[],[],59⟩] [true,true] [] [Fc Tryz.prog gl 6 [(.val (.slice 128 aI) a0)] (aj (List.replicate 59 none) []) (.ret (.val .bool y5)) (aq 59 []),(!y5)=true,true=true] (by kernel_rfl) ⟨x6 _ _ hy6,hg7,rfl,trivial⟩ ?_
     obtain rfl:=Option.some.inj h3
     exact jQ.mk [.an [0,1,2,27] []] (by kernel_rfl) rfl
    ·rcases ae h3 with⟨hg8,h3⟩|⟨hg8,h3⟩
     ·refine aa.br tied [⟨(.val .bool y5),[],[],[],59⟩] [false,true] [] [Fc Tryz.prog gl 6 [(.val (.slice 128 aI) a0)] (aj (List.replicate 59 none) []) (.ret (.val .bool y5)) (aq 59 []),(!y5)=false,(decide ((6:Int)<(List.length a1:Int)))=true] (by kernel_rfl) ⟨x6 _ _ hy6,hg7,hg8,trivial⟩ ?_
      obtain rfl:=Option.some.inj h3
      exact jQ.mk [.an [0,1,2,27] []] (by kernel_rfl) rfl
     ·refine aa.br tied [⟨(.val .bool y5),[],[],[],59⟩] [false,false] [] [Fc Tryz.prog gl 6 [(.val (.slice 128 aI) a0)] (aj (List.replicate 59 none) []) (.ret (.val .bool y5)) (aq 59 []),(!y5)=false,(decide ((6:Int)<(List.length a1:Int)))=false] (by kernel_rfl) ⟨x6 _ _ hy6,hg7,hg8,trivial⟩ ?_
      obtain rfl:=Option.some.inj h3
      exact jQ.mk [.an [0,1,2,27] []] (by kernel_rfl) rfl
   ·rintro _ rfl
    rcases ae h1 with⟨hc9,h1⟩|⟨hc9,h1⟩
    ·refine aa.aE (b:=o4) (by kernel_rfl) hc9 ?_
     refine aa.af tied [] [] [] [] (by kernel_rfl) trivial ?_
     refine aa.ret ?_
     obtain rfl:=Option.some.inj h1
     dsimp only at h
     obtain rfl:=Option.some.inj h
     exact(au [] [some .bool] (cq 134 []) (by kernel_rfl)).1
    ·refine aa.aF (b:=o4) (by kernel_rfl) hc9 ?_
     refine aa.skip ?_
     obtain rfl:=Option.some.inj h1
     exact jQ.mk [.an [0,1,2] []] (by kernel_rfl) ⟨_,rfl,rfl⟩
  ·rintro _ ⟨v10,rfl,rfl⟩
   dsimp only at h
   obtain⟨o11,h4,h⟩:=bind_some h
   refine aa.ba (fun σ'=>∃v42,o11= .bh v42∧σ'=ar 94 134 [(0,(.val (.slice 128 aI) a0)),(2,(.val (.slice 8 (.int .i64)) a2))] []) ?_ ?_
   ·refine aa.af tied [] [] [] [] (by kernel_rfl) trivial ?_
    refine aa.block ?_
    refine aa.aB (fun n σ=>∃(u1_0:Int),nF a0 a1 a2 n u1_0=some o11∧σ=ar 94 134 [(0,(.val (.slice 128 aI) a0)),(1,(.val (.slice 56 cn) a1)),(2,(.val (.slice 8 (.int .i64)) a2)),(28,(.val (.slice 128 aI) a0)),(29,(.val (.int .i64) (List.length a0:Int))),(30,(.val (.int .i64) u1_0))] []) [.an [0,1,2,28,29,30] []] (by kernel_rfl) ⟨_,h4,rfl⟩ ?_
    rintro n1 _ ⟨u1_0,h9,rfl⟩
    cases n1 with
    |zero=>exact absurd h9 (by simp[nF])
    |
     succ n1=>
     unfold nF at h9
     refine aa.af tied [] [] [] [] (by kernel_rfl) trivial ?_
     refine aa.seq ?_
     rcases ae h9 with⟨hc41,h9⟩|⟨hc41,h9⟩
     ·refine aa.aE (b:=decide (u1_0<(List.length a0:Int))) (by kernel_rfl) hc41 ?_
      refine aa.skip ?_
      change aa _ _ _ _ _
      obtain⟨o12,h10,h9⟩:=bind_some h9
      refine aa.ba (fun σ'=>∃v39,o12= .bh v39∧σ'=ar 94 134 [(0,(.val (.slice 128 aI) a0)),(1,(.val (.slice 56 cn) a1)),(2,(.val (.slice 8 (.int .i64)) a2)),(28,(.val (.slice 128 aI) a0)),(29,(.val (.int .i64) (List.length a0:Int))),(30,(.val (.int .i64) u1_0))] []) ?_ ?_
      ·refine aa.block ?_
       obtain⟨hv13,h10⟩:=ah h10
       refine aa.af tied [] [] [] [0≤u1_0,u1_0<(List.length a0:Int)] (by kernel_rfl) ⟨hv13.1,hv13.2,trivial⟩ ?_
       obtain⟨y14,hy15,h10⟩:=bind_some h10
       refine aa.af tied [⟨(.c8 (.cons (.val (.slice 56 cn) y14.1) (.cons (.val (.int .i64) y14.2) .nil))),[],[],[],116⟩] [] [] [Fc Tryz.prog gl 7 [(.val aI (nth aI a0 u1_0)),(.val (.slice 56 cn) a1)] (aj (List.replicate 116 none) []) (.ret (.c8 (.cons (.val (.slice 56 cn) y14.1) (.cons (.val (.int .i64) y14.2) .nil)))) (aq 116 [])] (by kernel_rfl) ⟨x7 _ _ _ hy15,trivial⟩ ?_
       obtain⟨y16,hy17,h10⟩:=bind_some h10
       refine aa.af tied [⟨(.c8 (.cons (.val (.slice 56 cn) y16.1) (.cons (.val (.int .i64) y16.2) .nil))),[],[],[],90⟩] [] [] [Fc Tryz.prog gl 8 [(.val aI (nth aI a0 u1_0)),(.val (.slice 56 cn) a1)] (aj (List.replicate 90 none) []) (.ret (.c8 (.cons (.val (.slice 56 cn) y16.1) (.cons (.val (.int .i64) y16.2) .nil)))) (aq 90 [])] (by kernel_rfl) ⟨x8 _ _ _ hy17,trivial⟩ ?_
       obtain⟨o18,h12,h10⟩:=bind_some h10
       refine aa.ba (fun σ'=>σ'=ar 94 134 [(0,(.val (.slice 128 aI) a0)),(1,(.val (.slice 56 cn) a1)),(2,(.val (.slice 8 (.int .i64)) a2)),(28,(.val (.slice 128 aI) a0)),(29,(.val (.int .i64) (List.length a0:Int))),(30,(.val (.int .i64) u1_0)),(85,(.val .bool o18))] []) ?_ ?_
       ·obtain⟨y19,hy20,h12⟩:=bind_some h12
        obtain⟨y21,hy22,h12⟩:=bind_some h12
        obtain⟨y23,hy24,h12⟩:=bind_some h12
        rcases ae h12 with⟨hg25,h12⟩|⟨hg25,h12⟩
        ·refine aa.gk tied [⟨(.val ej y19),[],[],[],85⟩,⟨(.val ej y21),[],[],[],88⟩,⟨(.val .bool y23),[],[],[],149⟩] [true,true,true,true] [] [Fc Tryz.prog gl 10 [(.val aI (nth aI a0 u1_0))] (aj (List.replicate 85 none) []) (.ret (.val ej y19)) (aq 85 []),Fc Tryz.prog gl 11 [(.val aI (nth aI a0 u1_0))] (aj (List.replicate 88 none) []) (.ret (.val ej y21)) (aq 88 []),Fc Tryz.prog gl 9 [(.val ej y19),(.val ej y21)] (aj (List.replicate 149 none) []) (.ret (.val .bool y23)) (aq 149 []),(!y23)=true,true=true,true=true,true=true] (by kernel_rfl) ⟨pn _ _ hy20,po _ _ hy22,x9 _ _ _ hy24,hg25,rfl,rfl,rfl,trivial⟩ ?_
         obtain rfl:=Option.some.inj h12
         exact jQ.mk [.an [0,1,2,28,29,30,85] []] (by kernel_rfl) rfl
        ·obtain⟨y26,hy27,h12⟩:=bind_some h12
         rcases ae h12 with⟨hg28,h12⟩|⟨hg28,h12⟩
         ·refine aa.gk tied [⟨(.val ej y19),[],[],[],85⟩,⟨(.val ej y21),[],[],[],88⟩,⟨(.val .bool y23),[],[],[],149⟩,⟨(.val .bool y26),[],[],[],82⟩] [false,true,true,true] [] [Fc Tryz.prog gl 10 [(.val aI (nth aI a0 u1_0))] (aj (List.replicate 85 none) []) (.ret (.val ej y19)) (aq 85 []),Fc Tryz.prog gl 11 [(.val aI (nth aI a0 u1_0))] (aj (List.replicate 88 none) []) (.ret (.val ej y21)) (aq 88 []),Fc Tryz.prog gl 9 [(.val ej y19),(.val ej y21)] (aj (List.replicate 149 none) []) (.ret (.val .bool y23)) (aq 149 []),(!y23)=false,Fc Tryz.prog gl 12 [(.val (.slice 56 cn) y14.1),(.val (.slice 56 cn) y16.1)] (aj (List.replicate 82 none) []) (.ret (.val .bool y26)) (aq 82 []),(!y26)=true,true=true,true=true] (by kernel_rfl) ⟨pn _ _ hy20,po _ _ hy22,x9 _ _ _ hy24,hg25,oJ _ _ _ hy27,hg28,rfl,rfl,trivial⟩ ?_
          obtain rfl:=Option.some.inj h12
          exact jQ.mk [.an [0,1,2,28,29,30,85] []] (by kernel_rfl) rfl
         ·rcases ae h12 with⟨hg29,h12⟩|⟨hg29,h12⟩
          ·refine aa.gk tied [⟨(.val ej y19),[],[],[],85⟩,⟨(.val ej y21),[],[],[],88⟩,⟨(.val .bool y23),[],[],[],149⟩,⟨(.val .bool y26),[],[],[],82⟩] [false,false,true,true] [] [Fc Tryz.prog gl 10 [(.val aI (nth aI a0 u1_0))] (aj (List.replicate 85 none) []) (.ret (.val ej y19)) (aq 85 []),Fc Tryz.prog gl 11 [(.val aI (nth aI a0 u1_0))] (aj (List.replicate 88 none) []) (.ret (.val ej y21)) (aq 88 []),Fc Tryz.prog gl 9 [(.val ej y19),(.val ej y21)] (aj (List.replicate 149 none) []) (.ret (.val .bool y23)) (aq 149 []),(!y23)=false,Fc Tryz.prog gl 12 [(.val (.slice 56 cn) y14.1),(.val (.slice 56 cn) y16.1)] (aj (List.replicate 82 none) []) (.ret (.val .bool y26)) (aq 82 []),(!y26)=false,(!decide (y14.2=y16.2))=true,true=true] (by kernel_rfl) ⟨pn _ _ hy20,po _ _ hy22,x9 _ _ _ hy24,hg25,oJ _ _ _ hy27,hg28,hg29,rfl,trivial⟩ ?_
           obtain rfl:=Option.some.inj h12
           exact jQ.mk [.an [0,1,2,28,29,30,85] []] (by kernel_rfl) rfl
          ·obtain⟨hv30,h12⟩:=ah h12
           obtain⟨y31,hy32,h12⟩:=bind_some h12
           obtain⟨y33,hy34,h12⟩:=bind_some h12
           rcases ae h12 with⟨hg35,h12⟩|⟨hg35,h12⟩
           ·refine aa.gk tied [⟨(.val ej y19),[],[],[],85⟩,⟨(.val ej y21),[],[],[],88⟩,⟨(.val .bool y23),[],[],[],149⟩,⟨(.val .bool y26),[],[],[],82⟩,⟨(.val .bool y31),[],[],[],85⟩,⟨(.val .bool y33),[],[],[],48⟩] [false,false,false,true] [] [Fc Tryz.prog gl 10 [(.val aI (nth aI a0 u1_0))] (aj (List.replicate 85 none) []) (.ret (.val ej y19)) (aq 85 []),Fc Tryz.prog gl 11 [(.val aI (nth aI a0 u1_0))] (aj (List.replicate 88 none) []) (.ret (.val ej y21)) (aq 88 []),Fc Tryz.prog gl 9 [(.val ej y19),(.val ej y21)] (aj (List.replicate 149 none) []) (.ret (.val .bool y23)) (aq 149 []),(!y23)=false,Fc Tryz.prog gl 12 [(.val (.slice 56 cn) y14.1),(.val (.slice 56 cn) y16.1)] (aj (List.replicate 82 none) []) (.ret (.val .bool y26)) (aq 82 []),(!y26)=false,(!decide (y14.2=y16.2))=false,0≤(0:Int),(0:Int)<(List.length a0:Int),Fc Tryz.prog gl 13 [(.val aI (nth aI a0 u1_0)),(.val aI (nth aI a0 (0:Int)))] (aj (List.replicate 85 none) []) (.ret (.val .bool y31)) (aq 85 []),0≤(0:Int),(0:Int)<(List.length a0:Int),Fc Tryz.prog gl 14 [(.val aI (nth aI a0 u1_0)),(.val aI (nth aI a0 (0:Int)))] (aj (List.replicate 48 none) []) (.ret (.val .bool y33)) (aq 48 []),Tryz.prog.underlying 4=some .bool,(!(y31==y33))=true] (by kernel_rfl) ⟨pn _ _ hy20,po _ _ hy22,x9 _ _ _ hy24,hg25,oJ _ _ _ hy27,hg28,hg29,(by decide),hv30,rA _ _ _ hy32,(by decide),hv30,mq _ _ _ hy34,ER,hg35,trivial⟩ ?_
            obtain rfl:=Option.some.inj h12
            exact jQ.mk [.an [0,1,2,28,29,30,85] []] (by kernel_rfl) rfl
           ·obtain⟨y36,hy37,h12⟩:=bind_some h12
            refine aa.gk tied [⟨(.val ej y19),[],[],[],85⟩,⟨(.val ej y21),[],[],[],88⟩,⟨(.val .bool y23),[],[],[],149⟩,⟨(.val .bool y26),[],[],[],82⟩,⟨(.val .bool y31),[],[],[],85⟩,⟨(.val .bool y33),[],[],[],48⟩,⟨(.val .bool y36),[],[],[],85⟩] [false,false,false,false] [] [Fc Tryz.prog gl 10 [(.val aI (nth aI a0 u1_0))] (aj (List.replicate 85 none) []) (.ret (.val ej y19)) (aq 85 []),Fc Tryz.prog gl 11 [(.val aI (nth aI a0 u1_0))] (aj (List.replicate 88 none) []) (.ret (.val ej y21)) (aq 88 []),Fc Tryz.prog gl 9 [(.val ej y19),(.val ej y21)] (aj (List.replicate 149 none) []) (.ret (.val .bool y23)) (aq 149 []),(!y23)=false,Fc Tryz.prog gl 12 [(.val (.slice 56 cn) y14.1),(.val (.slice 56 cn) y16.1)] (aj (List.replicate 82 none) []) (.ret (.val .bool y26)) (aq 82 []),(!y26)=false,(!decide (y14.2=y16.2))=false,0≤(0:Int),(0:Int)<(List.length a0:Int),Fc Tryz.prog gl 13 [(.val aI (nth aI a0 u1_0)),(.val aI (nth aI a0 (0:Int)))] (aj (List.replicate 85 none) []) (.ret (.val .bool y31)) (aq 85 []),0≤(0:Int),(0:Int)<(List.length a0:Int),Fc Tryz.prog gl 14 [(.val aI (nth aI a0 u1_0)),(.val aI (nth aI a0 (0:Int)))] (aj (List.replicate 48 none) []) (.ret (.val .bool y33)) (aq 48 []),Tryz.prog.underlying 4=some .bool,(!(y31==y33))=false,0≤u1_0,u1_0<(List.length a0:Int),Fc Tryz.prog gl 13 [(.val aI (nth aI a0 u1_0)),(.val aI (nth aI a0 u1_0))] (aj (List.replicate 85 none) []) (.ret (.val .bool y36)) (aq 85 [])] (by kernel_rfl) ⟨pn _ _ hy20,po _ _ hy22,x9 _ _ _ hy24,hg25,oJ _ _ _ hy27,hg28,hg29,(by decide),hv30,rA _ _ _ hy32,(by decide),hv30,mq _ _ _ hy34,ER,hg35,hv13.1,hv13.2,rA _ _ _ hy37,trivial⟩ ?_
            obtain rfl:=Option.some.inj h12
            exact jQ.mk [.an [0,1,2,28,29,30,85] []] (by kernel_rfl) rfl
       ·rintro _ rfl
        rcases ae h10 with⟨hc38,h10⟩|⟨hc38,h10⟩
        ·refine aa.aE (b:=o18) (by kernel_rfl) hc38 ?_
         refine aa.af tied [] [] [] [] (by kernel_rfl) trivial ?_
         refine aa.ret ?_
         obtain rfl:=Option.some.inj h10
         dsimp only at h9
         obtain rfl:=Option.some.inj h9
         dsimp only at h
         obtain rfl:=Option.some.inj h
         exact(au [] [some .bool] (cq 134 []) (by kernel_rfl)).1
        ·refine aa.aF (b:=o18) (by kernel_rfl) hc38 ?_
         refine aa.skip ?_
         refine bN ?_
         obtain rfl:=Option.some.inj h10
         exact jQ.mk [.an [0,1,2,28,29,30] []] (by kernel_rfl) ⟨_,rfl,rfl⟩
      ·rintro _ ⟨v39,rfl,rfl⟩
       dsimp only at h9
       refine aa.br tied [] [] [] [] (by kernel_rfl) trivial ?_
       exact aB.mk [.an [0,1,2,28,29,30] []] (by kernel_rfl) ⟨_,h9,rfl⟩
     ·refine aa.aF (b:=decide (u1_0<(List.length a0:Int))) (by kernel_rfl) hc41 ?_
      refine aa.exit ?_
      refine tE ?_
      refine lE ?_
      refine bE ?_
      obtain rfl:=Option.some.inj h9
      exact jQ.mk [.an [0,2] []] (by kernel_rfl) ⟨_,rfl,rfl⟩
   ·rintro _ ⟨v42,rfl,rfl⟩
    dsimp only at h
    obtain⟨y43,hy44,h⟩:=bind_some h
    obtain⟨y45,hy46,h⟩:=bind_some h
    obtain⟨y47,hy48,h⟩:=bind_some h
    refine aa.af tied [⟨(.val (.slice 104 bf) y43),[],[],[],49⟩,⟨(.val (.slice 104 bf) y45),[],[],[],122⟩,⟨(.val .bool y47),[],[],[],123⟩] [] [] [Fc Tryz.prog gl 16 [(.val (.slice 128 aI) a0),(.val (.slice 8 (.int .i64)) a2)] (aj (List.replicate 49 none) []) (.ret (.val (.slice 104 bf) y43)) (aq 49 []),Fc Tryz.prog gl 17 [(.val (.slice 128 aI) a0),(.val (.slice 8 (.int .i64)) a2)] (aj (List.replicate 122 none) []) (.ret (.val (.slice 104 bf) y45)) (aq 122 []),Fc Tryz.prog gl 15 [(.val (.slice 104 bf) y43),(.val (.slice 104 bf) y45)] (aj (List.replicate 123 none) []) (.ret (.val .bool y47)) (aq 123 [])] (by kernel_rfl) ⟨K6 _ _ _ hy44,LQ _ _ _ hy46,uG _ _ _ hy48,trivial⟩ ?_
    refine aa.ret ?_
    obtain rfl:=Option.some.inj h
    exact(au [] [some .bool] (cq 134 []) (by kernel_rfl)).1
end Go.Proofs.YtjabllhapfphoaaGreatDoor
