/- Made by program (dec.py): walks -/
import Derived.Test.YtmpdeifdnbhdiaaGreatDoorF1
namespace Go.Proofs.YtmpdeifdnbhdiaaGreatDoor
open Go.Abs
def dz(a3:List bz):Nat→Int→Int→(List Int)→Option (List Int)
 |0,_,_,_=>none
 |n1+1,u1_0,u1_1,u1_2=>if(decide (u1_0<u1_1))=true then(if 0≤u1_1∧u1_1<(List.length u1_2:Int) then(if 0≤u1_0∧u1_0<(List.length u1_2:Int) then(if u1_1<(List.length (List.set u1_2 (Int.toNat u1_0) (nth (.int .i64) u1_2 u1_1)):Int) then(dz a3 n1 (ao (u1_0+(1:Int))) (ao (u1_1 -(1:Int))) (List.set (List.set u1_2 (Int.toNat u1_0) (nth (.int .i64) u1_2 u1_1)) (Int.toNat u1_1) (nth (.int .i64) u1_2 u1_0))) else none) else none) else none) else(some u1_2)
def mM(a0:Int)(a1:Int)(a2:List Int)(a3:List bz):Option ((List Int)×(List bz)):=
 Option.bind (dz a3 (cS) a0 (ao (a1 -(1:Int))) a2) fun(o1:List Int)=>some (o1,a3)
set_option maxRecDepth 100000 in
theorem EM(a0:Int)(a1:Int)(a2:List Int)(a3:List bz)(r:(List Int)×(List bz))(h:mM a0 a1 a2 a3=some r):Fc Tryz.prog gl 72 [(.own 0),(.val (.int .i64) a0),(.val (.int .i64) a1),(.func (.func 21) (.cons (.own 1) .nil) .nil)] (aq (List.replicate 74 none) [(0,some (.row 3 8 (.int .i64) a2)),(1,some (.row 23 32 aC a3))]) (.ret (.bJ .nil)) (aN 74 [(0,(.row 3 8 (.int .i64) r.1)),(1,(.row 23 32 aC r.2))]):=by
 refine Fc.of Tryz.call72 (dq.aU tied Tryz.func72 rfl rfl (σ0:=az 34 74 [(0,(.own 0)),(1,(.val (.int .i64) a0)),(2,(.val (.int .i64) a1)),(3,(.func (.func 21) (.cons (.own 1) .nil) .nil))] [(0,some (.row 3 8 (.int .i64) a2)),(1,some (.row 23 32 aC a3))]) (by kernel_rfl) ?_)
 unfold mM at h
 refine ab.ak tied [] [] [] [] (by kernel_rfl) trivial ?_
 refine ab.ak tied [] [] [] [] (by kernel_rfl) trivial ?_
 obtain⟨o1,h1,h⟩:=bind_some h
 refine ab.kM (fun σ'=>σ'=az 34 74 [] [(0,some (.row 3 8 (.int .i64) o1)),(1,some (.row 23 32 aC a3))]) Cl.f ?_ ?_
 ·refine ab.block ?_
  refine ab.aM (fun n σ=>∃(u1_0:Int)(u1_1:Int)(u1_2:List Int),dz a3 n u1_0 u1_1 u1_2=some o1∧σ=az 34 74 [(0,(.own 0)),(8,(.val (.int .i64) u1_0)),(9,(.val (.int .i64) u1_1))] [(0,some (.row 3 8 (.int .i64) u1_2)),(1,some (.row 23 32 aC a3))]) [.ar [0,8,9] [0,1]] (by kernel_rfl) ⟨_,_,_,h1,rfl⟩ ?_
  rintro n1 _ ⟨u1_0,u1_1,u1_2,h3,rfl⟩
  cases n1 with
  |zero=>exact absurd h3 (by simp[dz])
  |
   succ n1=>
   unfold dz at h3
   refine ab.seq ?_
   refine ab.ak tied [] [] [] [] (by kernel_rfl) trivial ?_
   rcases aj h3 with⟨hc5,h3⟩|⟨hc5,h3⟩
   ·refine ab.aI (b:=decide (u1_0<u1_1)) (by kernel_rfl) hc5 ?_
    refine ab.skip ?_
    change ab _ _ _ _ _
    refine ab.block ?_
    obtain⟨hv2,h3⟩:=ai h3
    obtain⟨hv3,h3⟩:=ai h3
    obtain⟨hv4,h3⟩:=ai h3
    refine ab.dL tied [] [] [] [0≤u1_1,u1_1<(List.length u1_2:Int),0≤u1_0,u1_0<(List.length u1_2:Int),0≤u1_0,u1_0<(List.length u1_2:Int),0≤u1_1,u1_1<(List.length (List.set u1_2 (Int.toNat u1_0) (nth (.int .i64) u1_2 u1_1)):Int)] (by kernel_rfl) ⟨hv2.1,hv2.2,hv3.1,hv3.2,hv3.1,hv3.2,hv2.1,hv4,trivial⟩ ?_
    refine ab.ak tied [] [] [] [] (by kernel_rfl) trivial ?_
    refine ab.eI tied [] [] [] [] (by kernel_rfl) trivial ?_
    refine bN ?_
    exact aM.mk [.ar [0,8,9] [0,1]] (by kernel_rfl) ⟨_,_,_,h3,rfl⟩
   ·refine ab.aH (b:=decide (u1_0<u1_1)) (by kernel_rfl) hc5 ?_
    refine ab.exit ?_
    refine tE ?_
    refine lE ?_
    refine bE ?_
    obtain rfl:=Option.some.inj h3
    exact jQ.mk [.ar [] [0,1]] (by kernel_rfl) rfl
 ·rintro _ rfl
  obtain rfl:=Option.some.inj h
  exact(aG [.ar [] [0,1]] [] (fo 74 [0,1]) (by kernel_rfl)).2
def eC(a0:Int)(a1:Int)(a3:List bz)(u1_1:Int)(u1_2:List Int):Nat→Int→Option Int
 |0,_=>none
 |n2+1,u2_0=>Option.bind (Option.bind (if(decide (u2_0<a1))=true then(if 0≤u2_0∧u2_0<(List.length u1_2:Int) then(if 0≤(ao (u2_0 -(1:Int)))∧(ao (u2_0 -(1:Int)))<(List.length u1_2:Int) then(Option.bind (f21 a3 (nth (.int .i64) u1_2 u2_0) (nth (.int .i64) u1_2 (ao (u2_0 -(1:Int))))) fun y9=>some (!(decide (y9<(0:Int))))) else none) else none) else(some false)) fun(o5:Bool)=>if o5=true then(some (.brk ())) else(some (.ret ()))) fun(o4:lz Unit Unit)=>match o4 with| .brk _v12=>(eC a0 a1 a3 u1_1 u1_2 n2 (ao (u2_0+(1:Int))))| .ret _v13=>(some u2_0)
def iD(a0:Int)(a1:Int)(a3:List bz)(u1_1:Int)(o3:Int):Nat→Int→(List Int)→Option (List Int)
 |0,_,_=>none
 |n3+1,u3_0,u3_1=>if(decide ((1:Int)≤u3_0))=true then(if 0≤u3_0∧u3_0<(List.length u3_1:Int) then(if 0≤(ao (u3_0 -(1:Int)))∧(ao (u3_0 -(1:Int)))<(List.length u3_1:Int) then(Option.bind (f21 a3 (nth (.int .i64) u3_1 u3_0) (nth (.int .i64) u3_1 (ao (u3_0 -(1:Int))))) fun y20=>if(!(decide (y20<(0:Int))))=true then(some u3_1) else(if(ao (u3_0 -(1:Int)))<(List.length (List.set u3_1 (Int.toNat u3_0) (nth (.int .i64) u3_1 (ao (u3_0 -(1:Int))))):Int) then(iD a0 a1 a3 u1_1 o3 n3 (ao (u3_0 -(1:Int))) (List.set (List.set u3_1 (Int.toNat u3_0) (nth (.int .i64) u3_1 (ao (u3_0 -(1:Int))))) (Int.toNat (ao (u3_0 -(1:Int)))) (nth (.int .i64) u3_1 u3_0))) else none)) else none) else none) else(some u3_1)
def iE(a0:Int)(a1:Int)(a3:List bz)(u1_1:Int)(o3:Int):Nat→Int→(List Int)→Option (List Int)
 |0,_,_=>none
 |n4+1,u4_0,u4_1=>if(decide (u4_0<a1))=true then(if 0≤u4_0∧u4_0<(List.length u4_1:Int) then(if 0≤(ao (u4_0 -(1:Int)))∧(ao (u4_0 -(1:Int)))<(List.length u4_1:Int) then(Option.bind (f21 a3 (nth (.int .i64) u4_1 u4_0) (nth (.int .i64) u4_1 (ao (u4_0 -(1:Int))))) fun y29=>if(!(decide (y29<(0:Int))))=true then(some u4_1) else(if(ao (u4_0 -(1:Int)))<(List.length (List.set u4_1 (Int.toNat u4_0) (nth (.int .i64) u4_1 (ao (u4_0 -(1:Int))))):Int) then(iE a0 a1 a3 u1_1 o3 n4 (ao (u4_0+(1:Int))) (List.set (List.set u4_1 (Int.toNat u4_0) (nth (.int .i64) u4_1 (ao (u4_0 -(1:Int))))) (Int.toNat (ao (u4_0 -(1:Int)))) (nth (.int .i64) u4_1 u4_0))) else none)) else none) else none) else(some u4_1)
def gA(a0:Int)(a1:Int)(a3:List bz):Nat→Int→Int→(List Int)→Option (lz (List Int) (Bool×(List Int)×(List bz)))
 |0,_,_,_=>none
 |n1+1,u1_0,u1_1,u1_2=>if(decide (u1_1<(5:Int)))=true then(Option.bind (Option.bind (eC a0 a1 a3 u1_1 u1_2 (cS) u1_0) fun(o3:Int)=>if(decide (o3=a1))=true then(some (.ret (true,u1_2,a3))) else(if(decide ((ao (a1 -a0))<(50:Int)))=true then(some (.ret (false,u1_2,a3))) else(if 0≤(ao (o3 -(1:Int)))∧(ao (o3 -(1:Int)))<(List.length u1_2:Int) then(if 0≤o3∧o3<(List.length u1_2:Int) then(if(ao (o3 -(1:Int)))<(List.length (List.set u1_2 (Int.toNat o3) (nth (.int .i64) u1_2 (ao (o3 -(1:Int))))):Int) then(Option.bind (if(decide ((2:Int)≤(ao (o3 -a0))))=true then(iD a0 a1 a3 u1_1 o3 (cS) (ao (o3 -(1:Int))) (List.set (List.set u1_2 (Int.toNat o3) (nth (.int .i64) u1_2 (ao (o3 -(1:Int))))) (Int.toNat (ao (o3 -(1:Int)))) (nth (.int .i64) u1_2 o3))) else(some (List.set (List.set u1_2 (Int.toNat o3) (nth (.int .i64) u1_2 (ao (o3 -(1:Int))))) (Int.toNat (ao (o3 -(1:Int)))) (nth (.int .i64) u1_2 o3)))) fun(o17:List Int)=>if(decide ((2:Int)≤(ao (a1 -o3))))=true then(Option.bind (iE a0 a1 a3 u1_1 o3 (cS) (ao (o3+(1:Int))) o17) fun(o26:List Int)=>some (.brk (o3,o26))) else(some (.brk (o3,o17)))) else none) else none) else none))) fun(o2:lz (Int×(List Int)) (Bool×(List Int)×(List bz)))=>match o2 with| .brk v37=>(gA a0 a1 a3 n1 v37.1 (ao (u1_1+(1:Int))) v37.2)| .ret r38=>(some (.ret r38))) else(some (.brk u1_2))
def mN(a0:Int)(a1:Int)(a2:List Int)(a3:List bz):Option (Bool×(List Int)×(List bz)):=
 Option.bind (gA a0 a1 a3 (cS) (ao (a0+(1:Int))) (0:Int) a2) fun(o1:lz (List Int) (Bool×(List Int)×(List bz)))=>match o1 with| .brk v40=>(some (false,v40,a3))| .ret r41=>(some r41)
set_option maxRecDepth 100000 in
theorem EN(
 a0:Int) (a1:Int) (a2:List Int) (a3:List bz) (r:Bool×(List Int)×(List bz)) (h:mN a0 a1 a2 a3=some r):Fc Tryz.prog gl 73 [(.own 0),(.val (.int .i64) a0),(.val (.int .i64) a1),(.func (.func 21) (.cons (.own 1) .nil) .nil)] (aq (List.replicate 181 none) [(0,some (.row 3 8 (.int .i64) a2)),(1,some (.row 23 32 aC a3))]) (.ret (.val .bool r.1)) (aN 181 [(0,(.row 3 8 (.int .i64) r.2.1)),(1,(.row 23 32 aC r.2.2))]):=by
 refine Fc.of Tryz.call73 (dq.aU tied Tryz.func73 rfl rfl (σ0:=az 141 181 [(0,(.own 0)),(1,(.val (.int .i64) a0)),(2,(.val (.int .i64) a1)),(3,(.func (.func 21) (.cons (.own 1) .nil) .nil))] [(0,some (.row 3 8 (.int .i64) a2)),(1,some (.row 23 32 aC a3))]) (by kernel_rfl) ?_)
 unfold mN at h
 refine ab.ak tied [] [] [] [] (by kernel_rfl) trivial ?_
 refine ab.ak tied [] [] [] [] (by kernel_rfl) trivial ?_
 obtain⟨o1,h1,h⟩:=bind_some h
 refine ab.bV (fun σ'=>∃v40,o1= .brk v40∧σ'=az 141 181 [] [(0,some (.row 3 8 (.int .i64) v40)),(1,some (.row 23 32 aC a3))]) ?_ ?_
 ·refine ab.ak tied [] [] [] [] (by kernel_rfl) trivial ?_
  refine ab.block ?_
  refine ab.aM (fun n σ=>∃(u1_0:Int)(u1_1:Int)(u1_2:List Int),gA a0 a1 a3 n u1_0 u1_1 u1_2=some o1∧σ=az 141 181 [(0,(.own 0)),(1,(.val (.int .i64) a0)),(2,(.val (.int .i64) a1)),(3,(.func (.func 21) (.cons (.own 1) .nil) .nil)),(9,(.val (.int .i64) u1_0)),(10,(.val (.int .i64) u1_1))] [(0,some (.row 3 8 (.int .i64) u1_2)),(1,some (.row 23 32 aC a3))]) [.ar [0,1,2,3,9,10] [0,1]] (by kernel_rfl) ⟨_,_,_,h1,rfl⟩ ?_
  rintro n1 _ ⟨u1_0,u1_1,u1_2,h34,rfl⟩
  cases n1 with
  |zero=>exact absurd h34 (by simp[gA])
  |
   succ n1=>
   unfold gA at h34
   refine ab.seq ?_
   refine ab.ak tied [] [] [] [] (by kernel_rfl) trivial ?_
   rcases aj h34 with⟨hc39,h34⟩|⟨hc39,h34⟩
   ·refine ab.aI (
     b:=decide (u1_1<(5:Int))) (by kernel_rfl) hc39 ?_
    refine ab.skip ?_
    change ab _ _ _ _ _
    obtain⟨o2,h35,h34⟩:=bind_some h34
    refine ab.bV (fun σ'=>∃v37,o2= .brk v37∧σ'=az 141 181 [(0,(.own 0)),(1,(.val (.int .i64) a0)),(2,(.val (.int .i64) a1)),(3,(.func (.func 21) (.cons (.own 1) .nil) .nil)),(9,(.val (.int .i64) v37.1)),(10,(.val (.int .i64) u1_1))] [(0,some (.row 3 8 (.int .i64) v37.2)),(1,some (.row 23 32 aC a3))]) ?_ ?_
    ·refine ab.block ?_
     obtain⟨o3,h51,h35⟩:=bind_some h35
     refine ab.bV (fun σ'=>σ'=az 141 181 [(0,(.own 0)),(1,(.val (.int .i64) a0)),(2,(.val (.int .i64) a1)),(3,(.func (.func 21) (.cons (.own 1) .nil) .nil)),(9,(.val (.int .i64) o3)),(10,(.val (.int .i64) u1_1))] [(0,some (.row 3 8 (.int .i64) u1_2)),(1,some (.row 23 32 aC a3))]) ?_ ?_
     ·refine ab.block ?_
      refine ab.aM (fun n σ=>∃(u2_0:Int),eC a0 a1 a3 u1_1 u1_2 n u2_0=some o3∧σ=az 141 181 [(0,(.own 0)),(1,(.val (.int .i64) a0)),(2,(.val (.int .i64) a1)),(3,(.func (.func 21) (.cons (.own 1) .nil) .nil)),(9,(.val (.int .i64) u2_0)),(10,(.val (.int .i64) u1_1))] [(0,some (.row 3 8 (.int .i64) u1_2)),(1,some (.row 23 32 aC a3))]) [.ar [0,1,2,3,9,10] [0,1]] (by kernel_rfl) ⟨_,h51,rfl⟩ ?_
      rintro n2 _ ⟨u2_0,h56,rfl⟩
      cases n2 with
      |zero=>exact absurd h56 (by simp[eC])
      |
       succ n2=>
       unfold eC at h56
       obtain⟨o4,h57,h56⟩:=bind_some h56
       refine ab.tj (fun σ'=>∃v12,o4= .brk v12∧σ'=az 141 181 [(0,(.own 0)),(1,(.val (.int .i64) a0)),(2,(.val (.int .i64) a1)),(3,(.func (.func 21) (.cons (.own 1) .nil) .nil)),(9,(.val (.int .i64) u2_0)),(10,(.val (.int .i64) u1_1))] [(0,some (.row 3 8 (.int .i64) u1_2)),(1,some (.row 23 32 aC a3))]) (fun i σ'=>(i=2∧∃v13,o4= .ret v13∧σ'=az 141 181 [(0,(.own 0)),(1,(.val (.int .i64) a0)),(2,(.val (.int .i64) a1)),(3,(.func (.func 21) (.cons (.own 1) .nil) .nil)),(9,(.val (.int .i64) u2_0)),(10,(.val (.int .i64) u1_1))] [(0,some (.row 3 8 (.int .i64) u1_2)),(1,some (.row 23 32 aC a3))])) (Cl.loop (Cl.bp (Cl.j (Cl.bp (Cl.j (Cl.loop (Cl.bp (Cl.j Cl.f)))))))) ?_ ?_ ?_
       ·obtain⟨o5,h59,h57⟩:=bind_some h57
        refine ab.bV (fun σ'=>σ'=az 141 181 [(0,(.own 0)),(1,(.val (.int .i64) a0)),(2,(.val (.int .i64) a1)),(3,(.func (.func 21) (.cons (.own 1) .nil) .nil)),(9,(.val (.int .i64) u2_0)),(10,(.val (.int .i64) u1_1)),(36,(.val .bool o5))] [(0,some (.row 3 8 (.int .i64) u1_2)),(1,some (.row 23 32 aC a3))]) ?_ ?_
        ·rcases aj h59 with⟨hg6,h59⟩|⟨hg6,h59⟩
         ·obtain⟨hv7,h59⟩:=ai h59
          obtain⟨hv8,h59⟩:=ai h59
          obtain⟨y9,hy10,h59⟩:=bind_some h59
          refine ab.fT tied [⟨(.val (.int .i64) y9),[],[],[],68⟩] [true] [] [(decide (u2_0<a1))=true,0≤u2_0,u2_0<(List.length u1_2:Int),0≤(ao (u2_0 -(1:Int))),(ao (u2_0 -(1:Int)))<(List.length u1_2:Int),Fc Tryz.prog gl 21 [(.val (.slice 32 aC) a3),(.val (.int .i64) (nth (.int .i64) u1_2 u2_0)),(.val (.int .i64) (nth (.int .i64) u1_2 (ao (u2_0 -(1:Int)))))] (aq (List.replicate 68 none) []) (.ret (.val (.int .i64) y9)) (aN 68 [])] (by kernel_rfl) ⟨hg6,hv7.1,hv7.2,hv8.1,hv8.2,zC _ _ _ _ hy10,trivial⟩ ?_
          obtain rfl:=Option.some.inj h59
          exact jQ.mk [.ar [0,1,2,3,9,10,36] [0,1]] (by kernel_rfl) rfl
         ·refine ab.fT tied [] [false] [] [(decide (u2_0<a1))=false] (by kernel_rfl) ⟨hg6,trivial⟩ ?_
          obtain rfl:=Option.some.inj h59
          exact jQ.mk [.ar [0,1,2,3,9,10,36] [0,1]] (by kernel_rfl) rfl
        ·rintro _ rfl
         rcases aj h57 with⟨hc11,h57⟩|⟨hc11,h57⟩
         ·refine ab.aI (b:=o5) (by kernel_rfl) hc11 ?_
          refine ab.skip ?_
          obtain rfl:=Option.some.inj h57
          exact l4.mk [.ar [0,1,2,3,9,10] [0,1]] (by kernel_rfl) ⟨_,rfl,rfl⟩
         ·refine ab.aH (b:=o5) (by kernel_rfl) hc11 ?_
          refine ab.exit ?_
          obtain rfl:=Option.some.inj h57
          exact l4.ex [.ar [0,1,2,3,9,10] [0,1]] (by kernel_rfl) ⟨rfl,_,rfl,rfl⟩
       ·rintro _ _ ⟨rfl,v13,rfl,rfl⟩
        ·dsimp only at h56
         refine lE ?_
         refine bE ?_
         obtain rfl:=Option.some.inj h56
         exact jQ.mk [.ar [0,1,2,3,9,10] [0,1]] (by kernel_rfl) rfl
       ·rintro _ ⟨v12,rfl,rfl⟩
        dsimp only at h56
        refine ab.block ?_
        refine ab.eI tied [] [] [] [] (by kernel_rfl) trivial ?_
        refine bN ?_
        exact aM.mk [.ar [0,1,2,3,9,10] [0,1]] (by kernel_rfl) ⟨_,h56,rfl⟩
     ·rintro _ rfl
      refine ab.seq ?_
      refine ab.ak tied [] [] [] [] (by kernel_rfl) trivial ?_
      rcases aj h35 with⟨hc36,h35⟩|⟨hc36,h35⟩
      ·refine ab.aI (b:=decide (o3=a1)) (by kernel_rfl) hc36 ?_
       refine ab.ak tied [] [] [] [] (by kernel_rfl) trivial ?_
       refine ab.ret ?_
       obtain rfl:=Option.some.inj h35
       dsimp only at h34
       obtain rfl:=Option.some.inj h34
       dsimp only at h
       obtain rfl:=Option.some.inj h
       exact(aG [.ar [8] [0,1]] [some .bool] (fo 181 [0,1]) (by kernel_rfl)).1
      ·refine ab.aH (b:=decide (o3=a1)) (by kernel_rfl) hc36 ?_
       refine ab.skip ?_
       change ab _ _ _ _ _
       refine ab.seq ?_
       refine ab.ak tied [] [] [] [] (by kernel_rfl) trivial ?_
       rcases aj h35 with⟨hc35,h35⟩|⟨hc35,h35⟩
       ·refine ab.aI (b:=decide ((ao (a1 -a0))<(50:Int))) (by kernel_rfl) hc35 ?_
        refine ab.ak tied [] [] [] [] (by kernel_rfl) trivial ?_
        refine ab.ret ?_
        obtain rfl:=Option.some.inj h35
        dsimp only at h34
        obtain rfl:=Option.some.inj h34
        dsimp only at h
        obtain rfl:=Option.some.inj h
        exact(aG [.ar [8] [0,1]] [some .bool] (fo 181 [0,1]) (by kernel_rfl)).1
       ·refine ab.aH (b:=decide ((ao (a1 -a0))<(50:Int))) (by kernel_rfl) hc35 ?_
        refine ab.skip ?_
        change ab _ _ _ _ _
        obtain⟨hv14,h35⟩:=ai h35
        obtain⟨hv15,h35⟩:=ai h35
        obtain⟨hv16,h35⟩:=ai h35
        refine ab.dL tied [] [] [] [0≤(ao (o3 -(1:Int))),(ao (o3 -(1:Int)))<(List.length u1_2:Int),0≤o3,o3<(List.length u1_2:Int),0≤o3,o3<(List.length u1_2:Int),0≤(ao (o3 -(1:Int))),(ao (o3 -(1:Int)))<(List.length (List.set u1_2 (Int.toNat o3) (nth (.int .i64) u1_2 (ao (o3 -(1:Int))))):Int)] (by kernel_rfl) ⟨hv14.1,hv14.2,hv15.1,hv15.2,hv15.1,hv15.2,hv14.1,hv16,trivial⟩ ?_
        obtain⟨o17,h60,h35⟩:=bind_some h35
        refine ab.bV (fun σ'=>σ'=az 141 181 [(0,(.own 0)),(1,(.val (.int .i64) a0)),(2,(.val (.int .i64) a1)),(3,(.func (.func 21) (.cons (.own 1) .nil) .nil)),(9,(.val (.int .i64) o3)),(10,(.val (.int .i64) u1_1))] [(0,some (.row 3 8 (.int .i64) o17)),(1,some (.row 23 32 aC a3))]) ?_ ?_
        ·refine ab.ak tied [] [] [] [] (by kernel_rfl) trivial ?_
         rcases aj h60 with⟨hc25,h60⟩|⟨hc25,h60⟩
         ·refine ab.aI (b:=decide ((2:Int)≤(ao (o3 -a0)))) (by kernel_rfl) hc25 ?_
          refine ab.ak tied [] [] [] [] (by kernel_rfl) trivial ?_
          refine ab.block ?_
          refine ab.aM (fun n σ=>∃(u3_0:Int)(u3_1:List Int),iD a0 a1 a3 u1_1 o3 n u3_0 u3_1=some o17∧σ=az 141 181 [(0,(.own 0)),(1,(.val (.int .i64) a0)),(2,(.val (.int .i64) a1)),(3,(.func (.func 21) (.cons (.own 1) .nil) .nil)),(9,(.val (.int .i64) o3)),(10,(.val (.int .i64) u1_1)),(11,(.val (.int .i64) u3_0))] [(0,some (.row 3 8 (.int .i64) u3_1)),(1,some (.row 23 32 aC a3))]) [.ar [0,1,2,3,9,10,11] [0,1]] (by kernel_rfl) ⟨_,_,h60,rfl⟩ ?_
          rintro n3 _ ⟨u3_0,u3_1,h62,rfl⟩
          cases n3 with
          |zero=>exact absurd h62 (by simp[iD])
          |
           succ n3=>
           unfold iD at h62
           refine ab.seq ?_
           refine ab.ak tied [] [] [] [] (by kernel_rfl) trivial ?_
           rcases aj h62 with⟨hc24,h62⟩|⟨hc24,h62⟩
           ·refine ab.aI (b:=decide ((1:Int)≤u3_0)) (by kernel_rfl) hc24 ?_
            refine ab.skip ?_
            change ab _ _ _ _ _
            refine ab.seq ?_
            refine ab.block ?_
            refine ab.seq ?_
            obtain⟨hv18,h62⟩:=ai h62
            obtain⟨hv19,h62⟩:=ai h62
            obtain⟨y20,hy21,h62⟩:=bind_some h62
            refine ab.dL tied [⟨(.val (.int .i64) y20),[],[],[],68⟩] [] [] [0≤u3_0,u3_0<(List.length u3_1:Int),0≤(ao (u3_0 -(1:Int))),(ao (u3_0 -(1:Int)))<(List.length u3_1:Int),Fc Tryz.prog gl 21 [(.val (.slice 32 aC) a3),(.val (.int .i64) (nth (.int .i64) u3_1 u3_0)),(.val (.int .i64) (nth (.int .i64) u3_1 (ao (u3_0 -(1:Int)))))] (aq (List.replicate 68 none) []) (.ret (.val (.int .i64) y20)) (aN 68 [])] (by kernel_rfl) ⟨hv18.1,hv18.2,hv19.1,hv19.2,zC _ _ _ _ hy21,trivial⟩ ?_
            rcases aj h62 with⟨hc23,h62⟩|⟨hc23,h62⟩
            ·refine ab.aI (b:= !(decide (y20<(0:Int)))) (by kernel_rfl) hc23 ?_
             refine ab.exit ?_
             refine tE ?_
             refine bO rfl ?_
             refine tE ?_
             refine lE ?_
             refine bE ?_
             obtain rfl:=Option.some.inj h62
             exact jQ.mk [.ar [0,1,2,3,9,10] [0,1]] (by kernel_rfl) rfl
            ·refine ab.aH (b:= !(decide (y20<(0:Int)))) (by kernel_rfl) hc23 ?_
             refine ab.skip ?_
             change ab _ _ _ _ _
             obtain⟨hv22,h62⟩:=ai h62
             refine ab.fT tied [] [] [] [0≤(ao (u3_0 -(1:Int))),(ao (u3_0 -(1:Int)))<(List.length u3_1:Int),0≤u3_0,u3_0<(List.length u3_1:Int),0≤u3_0,u3_0<(List.length u3_1:Int),0≤(ao (u3_0 -(1:Int))),(ao (u3_0 -(1:Int)))<(List.length (List.set u3_1 (Int.toNat u3_0) (nth (.int .i64) u3_1 (ao (u3_0 -(1:Int))))):Int)] (by kernel_rfl) ⟨hv19.1,hv19.2,hv18.1,hv18.2,hv18.1,hv18.2,hv19.1,hv22,trivial⟩ ?_
             refine bN ?_
             change ab _ _ _ _ _
             refine ab.eI tied [] [] [] [] (by kernel_rfl) trivial ?_
             exact aM.mk [.ar [0,1,2,3,9,10,11] [0,1]] (by kernel_rfl) ⟨_,_,h62,rfl⟩
           ·refine ab.aH (b:=decide ((1:Int)≤u3_0)) (by kernel_rfl) hc24 ?_
            refine ab.exit ?_
            refine tE ?_
            refine lE ?_
            refine bE ?_
            obtain rfl:=Option.some.inj h62
            exact jQ.mk [.ar [0,1,2,3,9,10] [0,1]] (by kernel_rfl) rfl
         ·refine ab.aH (b:=decide ((2:Int)≤(ao (o3 -a0)))) (by kernel_rfl) hc25 ?_
          refine ab.skip ?_
          obtain rfl:=Option.some.inj h60
          exact jQ.mk [.ar [0,1,2,3,9,10] [0,1]] (by kernel_rfl) rfl
        ·rintro _ rfl
         refine ab.ak tied [] [] [] [] (by kernel_rfl) trivial ?_
         rcases aj h35 with⟨hc34,h35⟩|⟨hc34,h35⟩
         ·refine ab.aI (b:=decide ((2:Int)≤(ao (a1 -o3)))) (by kernel_rfl) hc34 ?_
          refine ab.ak tied [] [] [] [] (by kernel_rfl) trivial ?_
          obtain⟨o26,h63,h35⟩:=bind_some h35
          refine ab.kM (fun σ'=>σ'=az 141 181 [(0,(.own 0)),(1,(.val (.int .i64) a0)),(2,(.val (.int .i64) a1)),(3,(.func (.func 21) (.cons (.own 1) .nil) .nil)),(9,(.val (.int .i64) o3)),(10,(.val (.int .i64) u1_1))] [(0,some (.row 3 8 (.int .i64) o26)),(1,some (.row 23 32 aC a3))]) (Cl.bp (Cl.j (Cl.loop (Cl.bp (Cl.j Cl.f))))) ?_ ?_
          ·refine ab.block ?_
           refine ab.aM (fun n σ=>∃(u4_0:Int)(u4_1:List Int),iE a0 a1 a3 u1_1 o3 n u4_0 u4_1=some o26∧σ=az 141 181 [(0,(.own 0)),(1,(.val (.int .i64) a0)),(2,(.val (.int .i64) a1)),(3,(.func (.func 21) (.cons (.own 1) .nil) .nil)),(9,(.val (.int .i64) o3)),(10,(.val (.int .i64) u1_1)),(12,(.val (.int .i64) u4_0))] [(0,some (.row 3 8 (.int .i64) u4_1)),(1,some (.row 23 32 aC a3))]) [.ar [0,1,2,3,9,10,12] [0,1]] (by kernel_rfl) ⟨_,_,h63,rfl⟩ ?_
           rintro n4 _ ⟨u4_0,u4_1,h65,rfl⟩
           cases n4 with
           |zero=>exact absurd h65 (by simp[iE])
           |
            succ n4=>
            unfold iE at h65
            refine ab.seq ?_
            refine ab.ak tied [] [] [] [] (by kernel_rfl) trivial ?_
            rcases aj h65 with⟨hc33,h65⟩|⟨hc33,h65⟩
            ·refine ab.aI (b:=decide (u4_0<a1)) (by kernel_rfl) hc33 ?_
             refine ab.skip ?_
             change ab _ _ _ _ _
             refine ab.seq ?_
             refine ab.block ?_
             refine ab.seq ?_
             obtain⟨hv27,h65⟩:=ai h65
             obtain⟨hv28,h65⟩:=ai h65
             obtain⟨y29,hy30,h65⟩:=bind_some h65
             refine ab.dL tied [⟨(.val (.int .i64) y29),[],[],[],68⟩] [] [] [0≤u4_0,u4_0<(List.length u4_1:Int),0≤(ao (u4_0 -(1:Int))),(ao (u4_0 -(1:Int)))<(List.length u4_1:Int),Fc Tryz.prog gl 21 [(.val (.slice 32 aC) a3),(.val (.int .i64) (nth (.int .i64) u4_1 u4_0)),(.val (.int .i64) (nth (.int .i64) u4_1 (ao (u4_0 -(1:Int)))))] (aq (List.replicate 68 none) []) (.ret (.val (.int .i64) y29)) (aN 68 [])] (by kernel_rfl) ⟨hv27.1,hv27.2,hv28.1,hv28.2,zC _ _ _ _ hy30,trivial⟩ ?_
             rcases aj h65 with⟨hc32,h65⟩|⟨hc32,h65⟩
             ·refine ab.aI (b:= !(decide (y29<(0:Int)))) (by kernel_rfl) hc32 ?_
              refine ab.exit ?_
              refine tE ?_
              refine bO rfl ?_
              refine tE ?_
              refine lE ?_
              refine bE ?_
              obtain rfl:=Option.some.inj h65
              exact jQ.mk [.ar [0,1,2,3,9,10] [0,1]] (by kernel_rfl) rfl
             ·refine ab.aH (b:= !(decide (y29<(0:Int)))) (by kernel_rfl) hc32 ?_
              refine ab.skip ?_
              change ab _ _ _ _ _
              obtain⟨hv31,h65⟩:=ai h65
              refine ab.fT tied [] [] [] [0≤(ao (u4_0 -(1:Int))),(ao (u4_0 -(1:Int)))<(List.length u4_1:Int),0≤u4_0,u4_0<(List.length u4_1:Int),0≤u4_0,u4_0<(List.length u4_1:Int),0≤(ao (u4_0 -(1:Int))),(ao (u4_0 -(1:Int)))<(List.length (List.set u4_1 (Int.toNat u4_0) (nth (.int .i64) u4_1 (ao (u4_0 -(1:Int))))):Int)] (by kernel_rfl) ⟨hv28.1,hv28.2,hv27.1,hv27.2,hv27.1,hv27.2,hv28.1,hv31,trivial⟩ ?_
              refine bN ?_
              change ab _ _ _ _ _
              refine ab.eI tied [] [] [] [] (by kernel_rfl) trivial ?_
              exact aM.mk [.ar [0,1,2,3,9,10,12] [0,1]] (by kernel_rfl) ⟨_,_,h65,rfl⟩
            ·refine ab.aH (b:=decide (u4_0<a1)) (by kernel_rfl) hc33 ?_
             refine ab.exit ?_
             refine tE ?_
             refine lE ?_
             refine bE ?_
             obtain rfl:=Option.some.inj h65
             exact jQ.mk [.ar [0,1,2,3,9,10] [0,1]] (by kernel_rfl) rfl
          ·rintro _ rfl
           refine bN ?_
           obtain rfl:=Option.some.inj h35
           exact jQ.mk [.ar [0,1,2,3,9,10] [0,1]] (by kernel_rfl) ⟨_,rfl,rfl⟩
         ·refine ab.aH (b:=decide ((2:Int)≤(ao (a1 -o3)))) (by kernel_rfl) hc34 ?_
          refine ab.skip ?_
          refine bN ?_
          obtain rfl:=Option.some.inj h35
          exact jQ.mk [.ar [0,1,2,3,9,10] [0,1]] (by kernel_rfl) ⟨_,rfl,rfl⟩
    ·rintro _ ⟨v37,rfl,rfl⟩
     dsimp only at h34
     refine ab.eI tied [] [] [] [] (by kernel_rfl) trivial ?_
     exact aM.mk [.ar [0,1,2,3,9,10] [0,1]] (by kernel_rfl) ⟨_,_,_,h34,rfl⟩
   ·refine ab.aH (b:=decide (u1_1<(5:Int))) (by kernel_rfl) hc39 ?_
    refine ab.exit ?_
    refine tE ?_
    refine lE ?_
    refine bE ?_
    obtain rfl:=Option.some.inj h34
    exact jQ.mk [.ar [] [0,1]] (by kernel_rfl) ⟨_,rfl,rfl⟩
 ·rintro _ ⟨v40,rfl,rfl⟩
  dsimp only at h
  refine ab.ak tied [] [] [] [] (by kernel_rfl) trivial ?_
  refine ab.ret ?_
  obtain rfl:=Option.some.inj h
  exact(aG [.ar [8] [0,1]] [some .bool] (fo 181 [0,1]) (by kernel_rfl)).1
def eD(a0:Int)(a4:List bz)(u1_1:Int)(u1_2:List Int):Nat→Int→Option Int
 |0,_=>none
 |n2+1,u2_0=>Option.bind (Option.bind (if(decide (u2_0≤u1_1))=true then(if 0≤a0∧a0<(List.length u1_2:Int) then(if 0≤u2_0∧u2_0<(List.length u1_2:Int) then(Option.bind (f21 a4 (nth (.int .i64) u1_2 a0) (nth (.int .i64) u1_2 u2_0)) fun y12=>some (!(decide (y12<(0:Int))))) else none) else none) else(some false)) fun(o8:Bool)=>if o8=true then(some (.brk ())) else(some (.ret ()))) fun(o7:lz Unit Unit)=>match o7 with| .brk _v15=>(eD a0 a4 u1_1 u1_2 n2 (ao (u2_0+(1:Int))))| .ret _v16=>(some u2_0)
def eE(a0:Int)(a4:List bz)(u1_2:List Int)(o6:Int):Nat→Int→Option Int
 |0,_=>none
 |n3+1,u3_0=>Option.bind (Option.bind (if(decide (o6≤u3_0))=true then(if 0≤a0∧a0<(List.length u1_2:Int) then(if 0≤u3_0∧u3_0<(List.length u1_2:Int) then(Option.bind (f21 a4 (nth (.int .i64) u1_2 a0) (nth (.int .i64) u1_2 u3_0)) fun y23=>some (decide (y23<(0:Int)))) else none) else none) else(some false)) fun(o19:Bool)=>if o19=true then(some (.brk ())) else(some (.ret ()))) fun(o18:lz Unit Unit)=>match o18 with| .brk _v26=>(eE a0 a4 u1_2 o6 n3 (ao (u3_0 -(1:Int))))| .ret _v27=>(some u3_0)
def eF(a0:Int)(a4:List bz):Nat→Int→Int→(List Int)→Option (Int×(List Int))
 |0,_,_,_=>none
 |n1+1,u1_0,u1_1,u1_2=>Option.bind (Option.bind (eD a0 a4 u1_1 u1_2 (cS) u1_0) fun(o6:Int)=>Option.bind (eE a0 a4 u1_2 o6 (cS) u1_1) fun(o17:Int)=>if(decide (o17<o6))=true then(some (.ret o6)) else(if 0≤o17∧o17<(List.length u1_2:Int) then(if 0≤o6∧o6<(List.length u1_2:Int) then(if o17<(List.length (List.set u1_2 (Int.toNat o6) (nth (.int .i64) u1_2 o17)):Int) then(some (.brk (ao (o6+(1:Int)),ao (o17 -(1:Int)),List.set (List.set u1_2 (Int.toNat o6) (nth (.int .i64) u1_2 o17)) (Int.toNat o17) (nth (.int .i64) u1_2 o6)))) else none) else none) else none)) fun(o5:lz (Int×Int×(List Int)) Int)=>match o5 with| .brk v32=>(eF a0 a4 n1 v32.1 v32.2.1 v32.2.2)| .ret v33=>(some (v33,u1_2))
def pc(a0:Int)(a1:Int)(a2:Int)(a3:List Int)(a4:List bz):Option (Int×(List Int)×(List bz)):=
 if 0≤a2∧a2<(List.length a3:Int) then(if 0≤a0∧a0<(List.length a3:Int) then(if a2<(List.length (List.set a3 (Int.toNat a0) (nth (.int .i64) a3 a2)):Int) then(Option.bind (eF a0 a4 (cS) (ao (a0+(1:Int))) (ao (a1 -(1:Int))) (List.set (List.set a3 (Int.toNat a0) (nth (.int .i64) a3 a2)) (Int.toNat a2) (nth (.int .i64) a3 a0))) fun(o4:Int×(List Int))=>some (o4.1,o4.2,a4)) else none) else none) else none
set_option maxRecDepth 100000 in
theorem EO(
 a0:Int) (a1:Int) (a2:Int) (a3:List Int) (a4:List bz) (r:Int×(List Int)×(List bz)) (h:pc a0 a1 a2 a3 a4=some r):Fc Tryz.prog gl 74 [(.own 0),(.val (.int .i64) a0),(.val (.int .i64) a1),(.val (.int .i64) a2),(.func (.func 21) (.cons (.own 1) .nil) .nil)] (aq (List.replicate 130 none) [(0,some (.row 3 8 (.int .i64) a3)),(1,some (.row 23 32 aC a4))]) (.ret (.val (.int .i64) r.1)) (aN 130 [(0,(.row 3 8 (.int .i64) r.2.1)),(1,(.row 23 32 aC r.2.2))]):=by
 refine Fc.of Tryz.call74 (dq.aU tied Tryz.func74 rfl rfl (σ0:=az 90 130 [(0,(.own 0)),(1,(.val (.int .i64) a0)),(2,(.val (.int .i64) a1)),(3,(.val (.int .i64) a2)),(4,(.func (.func 21) (.cons (.own 1) .nil) .nil))] [(0,some (.row 3 8 (.int .i64) a3)),(1,some (.row 23 32 aC a4))]) (by kernel_rfl) ?_)
 unfold pc at h
 refine ab.ak tied [] [] [] [] (by kernel_rfl) trivial ?_
 obtain⟨hv1,h⟩:=ai h
 obtain⟨hv2,h⟩:=ai h
 obtain⟨hv3,h⟩:=ai h
 refine ab.dL tied [] [] [] [0≤a2,a2<(List.length a3:Int),0≤a0,a0<(List.length a3:Int),0≤a0,a0<(List.length a3:Int),0≤a2,a2<(List.length (List.set a3 (Int.toNat a0) (nth (.int .i64) a3 a2)):Int)] (by kernel_rfl) ⟨hv1.1,hv1.2,hv2.1,hv2.2,hv2.1,hv2.2,hv1.1,hv3,trivial⟩ ?_
 refine ab.ak tied [] [] [] [] (by kernel_rfl) trivial ?_
 obtain⟨o4,h1,h⟩:=bind_some h
 refine ab.bV (fun σ'=>σ'=az 90 130 [(11,(.val (.int .i64) o4.1))] [(0,some (.row 3 8 (.int .i64) o4.2)),(1,some (.row 23 32 aC a4))]) ?_ ?_
 ·refine ab.block ?_
  refine ab.aM (fun n σ=>∃(u1_0:Int)(u1_1:Int)(u1_2:List Int),eF a0 a4 n u1_0 u1_1 u1_2=some o4∧σ=az 90 130 [(0,(.own 0)),(1,(.val (.int .i64) a0)),(4,(.func (.func 21) (.cons (.own 1) .nil) .nil)),(11,(.val (.int .i64) u1_0)),(12,(.val (.int .i64) u1_1))] [(0,some (.row 3 8 (.int .i64) u1_2)),(1,some (.row 23 32 aC a4))]) [.ar [0,1,4,11,12] [0,1]] (by kernel_rfl) ⟨_,_,_,h1,rfl⟩ ?_
  rintro n1 _ ⟨u1_0,u1_1,u1_2,h40,rfl⟩
  cases n1 with
  |zero=>exact absurd h40 (by simp[eF])
  |
   succ n1=>
   unfold eF at h40
   obtain⟨o5,h41,h40⟩:=bind_some h40
   refine ab.D8 (fun σ'=>∃v32,o5= .brk v32∧σ'=az 90 130 [(0,(.own 0)),(1,(.val (.int .i64) a0)),(4,(.func (.func 21) (.cons (.own 1) .nil) .nil)),(11,(.val (.int .i64) v32.1)),(12,(.val (.int .i64) v32.2.1))] [(0,some (.row 3 8 (.int .i64) v32.2.2)),(1,some (.row 23 32 aC a4))]) (fun i σ'=>(i=0∧∃v33,o5= .ret v33∧σ'=az 90 130 [(11,(.val (.int .i64) v33))] [(0,some (.row 3 8 (.int .i64) u1_2)),(1,some (.row 23 32 aC a4))])) (Cl.loop (Cl.bp (Cl.j Cl.f))) ?_ ?_ ?_
   ·refine ab.block ?_
    obtain⟨o6,h60,h41⟩:=bind_some h41
    refine ab.bV (fun σ'=>σ'=az 90 130 [(0,(.own 0)),(1,(.val (.int .i64) a0)),(4,(.func (.func 21) (.cons (.own 1) .nil) .nil)),(11,(.val (.int .i64) o6)),(12,(.val (.int .i64) u1_1))] [(0,some (.row 3 8 (.int .i64) u1_2)),(1,some (.row 23 32 aC a4))]) ?_ ?_
    ·refine ab.block ?_
     refine ab.aM (fun n σ=>∃(u2_0:Int),eD a0 a4 u1_1 u1_2 n u2_0=some o6∧σ=az 90 130 [(0,(.own 0)),(1,(.val (.int .i64) a0)),(4,(.func (.func 21) (.cons (.own 1) .nil) .nil)),(11,(.val (.int .i64) u2_0)),(12,(.val (.int .i64) u1_1))] [(0,some (.row 3 8 (.int .i64) u1_2)),(1,some (.row 23 32 aC a4))]) [.ar [0,1,4,11,12] [0,1]] (by kernel_rfl) ⟨_,h60,rfl⟩ ?_
     rintro n2 _ ⟨u2_0,h65,rfl⟩
     cases n2 with
     |zero=>exact absurd h65 (by simp[eD])
     |
      succ n2=>
      unfold eD at h65
      obtain⟨o7,h66,h65⟩:=bind_some h65
      refine ab.tj (fun σ'=>∃v15,o7= .brk v15∧σ'=az 90 130 [(0,(.own 0)),(1,(.val (.int .i64) a0)),(4,(.func (.func 21) (.cons (.own 1) .nil) .nil)),(11,(.val (.int .i64) u2_0)),(12,(.val (.int .i64) u1_1))] [(0,some (.row 3 8 (.int .i64) u1_2)),(1,some (.row 23 32 aC a4))]) (fun i σ'=>(i=2∧∃v16,o7= .ret v16∧σ'=az 90 130 [(0,(.own 0)),(1,(.val (.int .i64) a0)),(4,(.func (.func 21) (.cons (.own 1) .nil) .nil)),(11,(.val (.int .i64) u2_0)),(12,(.val (.int .i64) u1_1))] [(0,some (.row 3 8 (.int .i64) u1_2)),(1,some (.row 23 32 aC a4))])) (Cl.loop (Cl.bp (Cl.j (Cl.bp Cl.jx)))) ?_ ?_ ?_
      ·obtain⟨o8,h68,h66⟩:=bind_some h66
       refine ab.bV (fun σ'=>σ'=az 90 130 [(0,(.own 0)),(1,(.val (.int .i64) a0)),(4,(.func (.func 21) (.cons (.own 1) .nil) .nil)),(11,(.val (.int .i64) u2_0)),(12,(.val (.int .i64) u1_1)),(47,(.val .bool o8))] [(0,some (.row 3 8 (.int .i64) u1_2)),(1,some (.row 23 32 aC a4))]) ?_ ?_
       ·rcases aj h68 with⟨hg9,h68⟩|⟨hg9,h68⟩
        ·obtain⟨hv10,h68⟩:=ai h68
         obtain⟨hv11,h68⟩:=ai h68
         obtain⟨y12,hy13,h68⟩:=bind_some h68
         refine ab.fT tied [⟨(.val (.int .i64) y12),[],[],[],68⟩] [true] [] [(decide (u2_0≤u1_1))=true,0≤a0,a0<(List.length u1_2:Int),0≤u2_0,u2_0<(List.length u1_2:Int),Fc Tryz.prog gl 21 [(.val (.slice 32 aC) a4),(.val (.int .i64) (nth (.int .i64) u1_2 a0)),(.val (.int .i64) (nth (.int .i64) u1_2 u2_0))] (aq (List.replicate 68 none) []) (.ret (.val (.int .i64) y12)) (aN 68 [])] (by kernel_rfl) ⟨hg9,hv10.1,hv10.2,hv11.1,hv11.2,zC _ _ _ _ hy13,trivial⟩ ?_
         obtain rfl:=Option.some.inj h68
         exact jQ.mk [.ar [0,1,4,11,12,47] [0,1]] (by kernel_rfl) rfl
        ·refine ab.fT tied [] [false] [] [(decide (u2_0≤u1_1))=false] (by kernel_rfl) ⟨hg9,trivial⟩ ?_
         obtain rfl:=Option.some.inj h68
         exact jQ.mk [.ar [0,1,4,11,12,47] [0,1]] (by kernel_rfl) rfl
       ·rintro _ rfl
        rcases aj h66 with⟨hc14,h66⟩|⟨hc14,h66⟩
        ·refine ab.aI (b:=o8) (by kernel_rfl) hc14 ?_
         refine ab.skip ?_
         obtain rfl:=Option.some.inj h66
         exact l4.mk [.ar [0,1,4,11,12] [0,1]] (by kernel_rfl) ⟨_,rfl,rfl⟩
        ·refine ab.aH (b:=o8) (by kernel_rfl) hc14 ?_
         refine ab.exit ?_
         obtain rfl:=Option.some.inj h66
         exact l4.ex [.ar [0,1,4,11,12] [0,1]] (by kernel_rfl) ⟨rfl,_,rfl,rfl⟩
      ·rintro _ _ ⟨rfl,v16,rfl,rfl⟩
       ·dsimp only at h65
        refine lE ?_
        refine bE ?_
        obtain rfl:=Option.some.inj h65
        exact jQ.mk [.ar [0,1,4,11,12] [0,1]] (by kernel_rfl) rfl
      ·rintro _ ⟨v15,rfl,rfl⟩
       dsimp only at h65
       refine ab.block ?_
       refine ab.eI tied [] [] [] [] (by kernel_rfl) trivial ?_
       refine bN ?_
       exact aM.mk [.ar [0,1,4,11,12] [0,1]] (by kernel_rfl) ⟨_,h65,rfl⟩
    ·rintro _ rfl
     obtain⟨o17,h69,h41⟩:=bind_some h41
     refine ab.bV (fun σ'=>σ'=az 90 130 [(0,(.own 0)),(1,(.val (.int .i64) a0)),(4,(.func (.func 21) (.cons (.own 1) .nil) .nil)),(11,(.val (.int .i64) o6)),(12,(.val (.int .i64) o17))] [(0,some (.row 3 8 (.int .i64) u1_2)),(1,some (.row 23 32 aC a4))]) ?_ ?_
     ·refine ab.block ?_
      refine ab.aM (fun n σ=>∃(u3_0:Int),eE a0 a4 u1_2 o6 n u3_0=some o17∧σ=az 90 130 [(0,(.own 0)),(1,(.val (.int .i64) a0)),(4,(.func (.func 21) (.cons (.own 1) .nil) .nil)),(11,(.val (.int .i64) o6)),(12,(.val (.int .i64) u3_0))] [(0,some (.row 3 8 (.int .i64) u1_2)),(1,some (.row 23 32 aC a4))]) [.ar [0,1,4,11,12] [0,1]] (by kernel_rfl) ⟨_,h69,rfl⟩ ?_
      rintro n3 _ ⟨u3_0,h74,rfl⟩
      cases n3 with
      |zero=>exact absurd h74 (by simp[eE])
      |
       succ n3=>
       unfold eE at h74
       obtain⟨o18,h75,h74⟩:=bind_some h74
       refine ab.tj (fun σ'=>∃v26,o18= .brk v26∧σ'=az 90 130 [(0,(.own 0)),(1,(.val (.int .i64) a0)),(4,(.func (.func 21) (.cons (.own 1) .nil) .nil)),(11,(.val (.int .i64) o6)),(12,(.val (.int .i64) u3_0))] [(0,some (.row 3 8 (.int .i64) u1_2)),(1,some (.row 23 32 aC a4))]) (fun i σ'=>(i=4∧∃v27,o18= .ret v27∧σ'=az 90 130 [(0,(.own 0)),(1,(.val (.int .i64) a0)),(4,(.func (.func 21) (.cons (.own 1) .nil) .nil)),(11,(.val (.int .i64) o6)),(12,(.val (.int .i64) u3_0))] [(0,some (.row 3 8 (.int .i64) u1_2)),(1,some (.row 23 32 aC a4))])) (Cl.loop (Cl.bp (Cl.j (Cl.bp Cl.jx)))) ?_ ?_ ?_
       ·obtain⟨o19,h77,h75⟩:=bind_some h75
        refine ab.bV (fun σ'=>σ'=az 90 130 [(0,(.own 0)),(1,(.val (.int .i64) a0)),(4,(.func (.func 21) (.cons (.own 1) .nil) .nil)),(11,(.val (.int .i64) o6)),(12,(.val (.int .i64) u3_0)),(65,(.val .bool o19))] [(0,some (.row 3 8 (.int .i64) u1_2)),(1,some (.row 23 32 aC a4))]) ?_ ?_
        ·rcases aj h77 with⟨hg20,h77⟩|⟨hg20,h77⟩
         ·obtain⟨hv21,h77⟩:=ai h77
          obtain⟨hv22,h77⟩:=ai h77
          obtain⟨y23,hy24,h77⟩:=bind_some h77
          refine ab.fT tied [⟨(.val (.int .i64) y23),[],[],[],68⟩] [true] [] [(decide (o6≤u3_0))=true,0≤a0,a0<(List.length u1_2:Int),0≤u3_0,u3_0<(List.length u1_2:Int),Fc Tryz.prog gl 21 [(.val (.slice 32 aC) a4),(.val (.int .i64) (nth (.int .i64) u1_2 a0)),(.val (.int .i64) (nth (.int .i64) u1_2 u3_0))] (aq (List.replicate 68 none) []) (.ret (.val (.int .i64) y23)) (aN 68 [])] (by kernel_rfl) ⟨hg20,hv21.1,hv21.2,hv22.1,hv22.2,zC _ _ _ _ hy24,trivial⟩ ?_
          obtain rfl:=Option.some.inj h77
          exact jQ.mk [.ar [0,1,4,11,12,65] [0,1]] (by kernel_rfl) rfl
         ·refine ab.fT tied [] [false] [] [(decide (o6≤u3_0))=false] (by kernel_rfl) ⟨hg20,trivial⟩ ?_
          obtain rfl:=Option.some.inj h77
          exact jQ.mk [.ar [0,1,4,11,12,65] [0,1]] (by kernel_rfl) rfl
        ·rintro _ rfl
         rcases aj h75 with⟨hc25,h75⟩|⟨hc25,h75⟩
         ·refine ab.aI (b:=o19) (by kernel_rfl) hc25 ?_
          refine ab.skip ?_
          obtain rfl:=Option.some.inj h75
          exact l4.mk [.ar [0,1,4,11,12] [0,1]] (by kernel_rfl) ⟨_,rfl,rfl⟩
         ·refine ab.aH (b:=o19) (by kernel_rfl) hc25 ?_
          refine ab.exit ?_
          obtain rfl:=Option.some.inj h75
          exact l4.ex [.ar [0,1,4,11,12] [0,1]] (by kernel_rfl) ⟨rfl,_,rfl,rfl⟩
       ·rintro _ _ ⟨rfl,v27,rfl,rfl⟩
        ·dsimp only at h74
         refine lE ?_
         refine bE ?_
         obtain rfl:=Option.some.inj h74
         exact jQ.mk [.ar [0,1,4,11,12] [0,1]] (by kernel_rfl) rfl
       ·rintro _ ⟨v26,rfl,rfl⟩
        dsimp only at h74
        refine ab.block ?_
        refine ab.eI tied [] [] [] [] (by kernel_rfl) trivial ?_
        refine bN ?_
        exact aM.mk [.ar [0,1,4,11,12] [0,1]] (by kernel_rfl) ⟨_,h74,rfl⟩
     ·rintro _ rfl
      refine ab.seq ?_
      refine ab.ak tied [] [] [] [] (by kernel_rfl) trivial ?_
      rcases aj h41 with⟨hc31,h41⟩|⟨hc31,h41⟩
      ·refine ab.aI (b:=decide (o17<o6)) (by kernel_rfl) hc31 ?_
       refine ab.exit ?_
       refine tE ?_
       refine bO rfl ?_
       obtain rfl:=Option.some.inj h41
       exact l4.ex [.ar [11] [0,1]] (by kernel_rfl) ⟨rfl,_,rfl,rfl⟩
      ·refine ab.aH (b:=decide (o17<o6)) (by kernel_rfl) hc31 ?_
       refine ab.skip ?_
       change ab _ _ _ _ _
       obtain⟨hv28,h41⟩:=ai h41
       obtain⟨hv29,h41⟩:=ai h41
       obtain⟨hv30,h41⟩:=ai h41
       refine ab.dL tied [] [] [] [0≤o17,o17<(List.length u1_2:Int),0≤o6,o6<(List.length u1_2:Int),0≤o6,o6<(List.length u1_2:Int),0≤o17,o17<(List.length (List.set u1_2 (Int.toNat o6) (nth (.int .i64) u1_2 o17)):Int)] (by kernel_rfl) ⟨hv28.1,hv28.2,hv29.1,hv29.2,hv29.1,hv29.2,hv28.1,hv30,trivial⟩ ?_
       refine ab.ak tied [] [] [] [] (by kernel_rfl) trivial ?_
       refine ab.eI tied [] [] [] [] (by kernel_rfl) trivial ?_
       refine bN ?_
       obtain rfl:=Option.some.inj h41
       exact l4.mk [.ar [0,1,4,11,12] [0,1]] (by kernel_rfl) ⟨_,rfl,rfl⟩
   ·rintro _ _ ⟨rfl,v33,rfl,rfl⟩
    ·dsimp only at h40
     refine lE ?_
     refine bE ?_
     obtain rfl:=Option.some.inj h40
     exact jQ.mk [.ar [11] [0,1]] (by kernel_rfl) rfl
   ·rintro _ ⟨v32,rfl,rfl⟩
    dsimp only at h40
    exact aM.mk [.ar [0,1,4,11,12] [0,1]] (by kernel_rfl) ⟨_,_,_,h40,rfl⟩
 ·rintro _ rfl
  refine ab.ak tied [] [] [] [] (by kernel_rfl) trivial ?_
  refine ab.ret ?_
  obtain rfl:=Option.some.inj h
  exact(aG [.ar [10] [0,1]] [some (.int .i64)] (fo 130 [0,1]) (by kernel_rfl)).1
end Go.Proofs.YtmpdeifdnbhdiaaGreatDoor
