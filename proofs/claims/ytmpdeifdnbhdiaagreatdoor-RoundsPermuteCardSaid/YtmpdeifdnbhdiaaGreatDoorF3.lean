/- Made by program (dec.py): walks -/
import Derived.Test.YtmpdeifdnbhdiaaGreatDoorF2
namespace Go.Proofs.YtmpdeifdnbhdiaaGreatDoor
open Go.Abs
def eP(a0:Int)(a1:Int)(a2:Int)(a3:List Int)(a4:List bz):Nat→Int→Option Int
 |0,_=>none
 |n1+1,u1_0=>Option.bind (Option.bind (if(decide (u1_0≤(ao (a1 -(1:Int)))))=true then(if 0≤u1_0∧u1_0<(List.length (List.set (List.set a3 (Int.toNat a0) (nth (.int .i64) a3 a2)) (Int.toNat a2) (nth (.int .i64) a3 a0)):Int) then(if 0≤a0∧a0<(List.length (List.set (List.set a3 (Int.toNat a0) (nth (.int .i64) a3 a2)) (Int.toNat a2) (nth (.int .i64) a3 a0)):Int) then(Option.bind (f21 a4 (nth (.int .i64) (List.set (List.set a3 (Int.toNat a0) (nth (.int .i64) a3 a2)) (Int.toNat a2) (nth (.int .i64) a3 a0)) u1_0) (nth (.int .i64) (List.set (List.set a3 (Int.toNat a0) (nth (.int .i64) a3 a2)) (Int.toNat a2) (nth (.int .i64) a3 a0)) a0)) fun y10=>some (decide (y10<(0:Int)))) else none) else none) else(some false)) fun(o6:Bool)=>if o6=true then(some (.brk ())) else(some (.ret ()))) fun(o5:lz Unit Unit)=>match o5 with| .brk _v13=>(eP a0 a1 a2 a3 a4 n1 (ao (u1_0+(1:Int))))| .ret _v14=>(some u1_0)
def eQ(a0:Int)(a2:Int)(a3:List Int)(a4:List bz)(o4:Int):Nat→Int→Option Int
 |0,_=>none
 |n2+1,u2_0=>Option.bind (Option.bind (if(decide (o4≤u2_0))=true then(if 0≤u2_0∧u2_0<(List.length (List.set (List.set a3 (Int.toNat a0) (nth (.int .i64) a3 a2)) (Int.toNat a2) (nth (.int .i64) a3 a0)):Int) then(if 0≤a0∧a0<(List.length (List.set (List.set a3 (Int.toNat a0) (nth (.int .i64) a3 a2)) (Int.toNat a2) (nth (.int .i64) a3 a0)):Int) then(Option.bind (f21 a4 (nth (.int .i64) (List.set (List.set a3 (Int.toNat a0) (nth (.int .i64) a3 a2)) (Int.toNat a2) (nth (.int .i64) a3 a0)) u2_0) (nth (.int .i64) (List.set (List.set a3 (Int.toNat a0) (nth (.int .i64) a3 a2)) (Int.toNat a2) (nth (.int .i64) a3 a0)) a0)) fun y21=>some (!(decide (y21<(0:Int))))) else none) else none) else(some false)) fun(o17:Bool)=>if o17=true then(some (.brk ())) else(some (.ret ()))) fun(o16:lz Unit Unit)=>match o16 with| .brk _v24=>(eQ a0 a2 a3 a4 o4 n2 (ao (u2_0 -(1:Int))))| .ret _v25=>(some u2_0)
def eR(a0:Int)(a4:List bz)(u3_1:Int)(u3_2:List Int):Nat→Int→Option Int
 |0,_=>none
 |n4+1,u4_0=>Option.bind (Option.bind (if(decide (u4_0≤u3_1))=true then(if 0≤u4_0∧u4_0<(List.length u3_2:Int) then(if 0≤a0∧a0<(List.length u3_2:Int) then(Option.bind (f21 a4 (nth (.int .i64) u3_2 u4_0) (nth (.int .i64) u3_2 a0)) fun y40=>some (decide (y40<(0:Int)))) else none) else none) else(some false)) fun(o36:Bool)=>if o36=true then(some (.brk ())) else(some (.ret ()))) fun(o35:lz Unit Unit)=>match o35 with| .brk _v43=>(eR a0 a4 u3_1 u3_2 n4 (ao (u4_0+(1:Int))))| .ret _v44=>(some u4_0)
def eS(a0:Int)(a4:List bz)(u3_2:List Int)(o34:Int):Nat→Int→Option Int
 |0,_=>none
 |n5+1,u5_0=>Option.bind (Option.bind (if(decide (o34≤u5_0))=true then(if 0≤u5_0∧u5_0<(List.length u3_2:Int) then(if 0≤a0∧a0<(List.length u3_2:Int) then(Option.bind (f21 a4 (nth (.int .i64) u3_2 u5_0) (nth (.int .i64) u3_2 a0)) fun y51=>some (!(decide (y51<(0:Int))))) else none) else none) else(some false)) fun(o47:Bool)=>if o47=true then(some (.brk ())) else(some (.ret ()))) fun(o46:lz Unit Unit)=>match o46 with| .brk _v54=>(eS a0 a4 u3_2 o34 n5 (ao (u5_0 -(1:Int))))| .ret _v55=>(some u5_0)
def eT(a0:Int)(a4:List bz):Nat→Int→Int→(List Int)→Option (Int×(List Int))
 |0,_,_,_=>none
 |n3+1,u3_0,u3_1,u3_2=>Option.bind (Option.bind (eR a0 a4 u3_1 u3_2 (cS) u3_0) fun(o34:Int)=>Option.bind (eS a0 a4 u3_2 o34 (cS) u3_1) fun(o45:Int)=>if(decide (o45<o34))=true then(some (.ret o45)) else(if 0≤o45∧o45<(List.length u3_2:Int) then(if 0≤o34∧o34<(List.length u3_2:Int) then(if o45<(List.length (List.set u3_2 (Int.toNat o34) (nth (.int .i64) u3_2 o45)):Int) then(some (.brk (ao (o34+(1:Int)),ao (o45 -(1:Int)),List.set (List.set u3_2 (Int.toNat o34) (nth (.int .i64) u3_2 o45)) (Int.toNat o45) (nth (.int .i64) u3_2 o34)))) else none) else none) else none)) fun(o33:lz (Int×Int×(List Int)) Int)=>match o33 with| .brk v60=>(eT a0 a4 n3 v60.1 v60.2.1 v60.2.2)| .ret v61=>(some (v61,u3_2))
def qz(a0:Int)(a1:Int)(a2:Int)(a3:List Int)(a4:List bz):Option (Int×Bool×(List Int)×(List bz)):=
 if 0≤a2∧a2<(List.length a3:Int) then(if 0≤a0∧a0<(List.length a3:Int) then(if a2<(List.length (List.set a3 (Int.toNat a0) (nth (.int .i64) a3 a2)):Int) then(Option.bind (eP a0 a1 a2 a3 a4 (cS) (ao (a0+(1:Int)))) fun(o4:Int)=>Option.bind (eQ a0 a2 a3 a4 o4 (cS) (ao (a1 -(1:Int)))) fun(o15:Int)=>if(decide (o15<o4))=true then(if a0<(List.length (List.set (List.set a3 (Int.toNat a0) (nth (.int .i64) a3 a2)) (Int.toNat a2) (nth (.int .i64) a3 a0)):Int) then(if 0≤o15∧o15<(List.length (List.set (List.set a3 (Int.toNat a0) (nth (.int .i64) a3 a2)) (Int.toNat a2) (nth (.int .i64) a3 a0)):Int) then(if a0<(List.length (List.set (List.set (List.set a3 (Int.toNat a0) (nth (.int .i64) a3 a2)) (Int.toNat a2) (nth (.int .i64) a3 a0)) (Int.toNat o15) (nth (.int .i64) (List.set (List.set a3 (Int.toNat a0) (nth (.int .i64) a3 a2)) (Int.toNat a2) (nth (.int .i64) a3 a0)) a0)):Int) then(some (o15,true,List.set (List.set (List.set (List.set a3 (Int.toNat a0) (nth (.int .i64) a3 a2)) (Int.toNat a2) (nth (.int .i64) a3 a0)) (Int.toNat o15) (nth (.int .i64) (List.set (List.set a3 (Int.toNat a0) (nth (.int .i64) a3 a2)) (Int.toNat a2) (nth (.int .i64) a3 a0)) a0)) (Int.toNat a0) (nth (.int .i64) (List.set (List.set a3 (Int.toNat a0) (nth (.int .i64) a3 a2)) (Int.toNat a2) (nth (.int .i64) a3 a0)) o15),a4)) else none) else none) else none) else(if 0≤o15∧o15<(List.length (List.set (List.set a3 (Int.toNat a0) (nth (.int .i64) a3 a2)) (Int.toNat a2) (nth (.int .i64) a3 a0)):Int) then(if 0≤o4∧o4<(List.length (List.set (List.set a3 (Int.toNat a0) (nth (.int .i64) a3 a2)) (Int.toNat a2) (nth (.int .i64) a3 a0)):Int) then(if o15<(List.length (List.set (List.set (List.set a3 (Int.toNat a0) (nth (.int .i64) a3 a2)) (Int.toNat a2) (nth (.int .i64) a3 a0)) (Int.toNat o4) (nth (.int .i64) (List.set (List.set a3 (Int.toNat a0) (nth (.int .i64) a3 a2)) (Int.toNat a2) (nth (.int .i64) a3 a0)) o15)):Int) then(Option.bind (eT a0 a4 (cS) (ao (o4+(1:Int))) (ao (o15 -(1:Int))) (List.set (List.set (List.set (List.set a3 (Int.toNat a0) (nth (.int .i64) a3 a2)) (Int.toNat a2) (nth (.int .i64) a3 a0)) (Int.toNat o4) (nth (.int .i64) (List.set (List.set a3 (Int.toNat a0) (nth (.int .i64) a3 a2)) (Int.toNat a2) (nth (.int .i64) a3 a0)) o15)) (Int.toNat o15) (nth (.int .i64) (List.set (List.set a3 (Int.toNat a0) (nth (.int .i64) a3 a2)) (Int.toNat a2) (nth (.int .i64) a3 a0)) o4))) fun(o32:Int×(List Int))=>if a0<(List.length o32.2:Int) then(if 0≤o32.1∧o32.1<(List.length o32.2:Int) then(if a0<(List.length (List.set o32.2 (Int.toNat o32.1) (nth (.int .i64) o32.2 a0)):Int) then(some (o32.1,false,List.set (List.set o32.2 (Int.toNat o32.1) (nth (.int .i64) o32.2 a0)) (Int.toNat a0) (nth (.int .i64) o32.2 o32.1),a4)) else none) else none) else none) else none) else none) else none)) else none) else none) else none
set_option maxRecDepth 100000 in
theorem FL(
 a0:Int) (a1:Int) (a2:Int) (a3:List Int) (a4:List bz) (r:Int×Bool×(List Int)×(List bz)) (h:qz a0 a1 a2 a3 a4=some r):Fc Tryz.prog gl 75 [(.own 0),(.val (.int .i64) a0),(.val (.int .i64) a1),(.val (.int .i64) a2),(.func (.func 21) (.cons (.own 1) .nil) .nil)] (aq (List.replicate 218 none) [(0,some (.row 3 8 (.int .i64) a3)),(1,some (.row 23 32 aC a4))]) (.ret (.bJ (.cons (.val (.int .i64) r.1) (.cons (.val .bool r.2.1) .nil)))) (aN 218 [(0,(.row 3 8 (.int .i64) r.2.2.1)),(1,(.row 23 32 aC r.2.2.2))]):=by
 refine Fc.of Tryz.call75 (dq.aU tied Tryz.func75 rfl rfl (σ0:=az 178 218 [(0,(.own 0)),(1,(.val (.int .i64) a0)),(2,(.val (.int .i64) a1)),(3,(.val (.int .i64) a2)),(4,(.func (.func 21) (.cons (.own 1) .nil) .nil))] [(0,some (.row 3 8 (.int .i64) a3)),(1,some (.row 23 32 aC a4))]) (by kernel_rfl) ?_)
 unfold qz at h
 refine ab.ak tied [] [] [] [] (by kernel_rfl) trivial ?_
 obtain⟨hv1,h⟩:=ai h
 obtain⟨hv2,h⟩:=ai h
 obtain⟨hv3,h⟩:=ai h
 refine ab.dL tied [] [] [] [0≤a2,a2<(List.length a3:Int),0≤a0,a0<(List.length a3:Int),0≤a0,a0<(List.length a3:Int),0≤a2,a2<(List.length (List.set a3 (Int.toNat a0) (nth (.int .i64) a3 a2)):Int)] (by kernel_rfl) ⟨hv1.1,hv1.2,hv2.1,hv2.2,hv2.1,hv2.2,hv1.1,hv3,trivial⟩ ?_
 refine ab.ak tied [] [] [] [] (by kernel_rfl) trivial ?_
 obtain⟨o4,h1,h⟩:=bind_some h
 refine ab.bV (fun σ'=>σ'=az 178 218 [(0,(.own 0)),(1,(.val (.int .i64) a0)),(4,(.func (.func 21) (.cons (.own 1) .nil) .nil)),(12,(.val (.int .i64) o4)),(13,(.val (.int .i64) (ao (a1 -(1:Int)))))] [(0,some (.row 3 8 (.int .i64) (List.set (List.set a3 (Int.toNat a0) (nth (.int .i64) a3 a2)) (Int.toNat a2) (nth (.int .i64) a3 a0)))),(1,some (.row 23 32 aC a4))]) ?_ ?_
 ·refine ab.block ?_
  refine ab.aM (fun n σ=>∃(u1_0:Int),eP a0 a1 a2 a3 a4 n u1_0=some o4∧σ=az 178 218 [(0,(.own 0)),(1,(.val (.int .i64) a0)),(4,(.func (.func 21) (.cons (.own 1) .nil) .nil)),(12,(.val (.int .i64) u1_0)),(13,(.val (.int .i64) (ao (a1 -(1:Int)))))] [(0,some (.row 3 8 (.int .i64) (List.set (List.set a3 (Int.toNat a0) (nth (.int .i64) a3 a2)) (Int.toNat a2) (nth (.int .i64) a3 a0)))),(1,some (.row 23 32 aC a4))]) [.ar [0,1,4,12,13] [0,1]] (by kernel_rfl) ⟨_,h1,rfl⟩ ?_
  rintro n1 _ ⟨u1_0,h6,rfl⟩
  cases n1 with
  |zero=>exact absurd h6 (by simp[eP])
  |
   succ n1=>
   unfold eP at h6
   obtain⟨o5,h7,h6⟩:=bind_some h6
   refine ab.tj (fun σ'=>∃v13,o5= .brk v13∧σ'=az 178 218 [(0,(.own 0)),(1,(.val (.int .i64) a0)),(4,(.func (.func 21) (.cons (.own 1) .nil) .nil)),(12,(.val (.int .i64) u1_0)),(13,(.val (.int .i64) (ao (a1 -(1:Int)))))] [(0,some (.row 3 8 (.int .i64) (List.set (List.set a3 (Int.toNat a0) (nth (.int .i64) a3 a2)) (Int.toNat a2) (nth (.int .i64) a3 a0)))),(1,some (.row 23 32 aC a4))]) (fun i σ'=>(i=0∧∃v14,o5= .ret v14∧σ'=az 178 218 [(0,(.own 0)),(1,(.val (.int .i64) a0)),(4,(.func (.func 21) (.cons (.own 1) .nil) .nil)),(12,(.val (.int .i64) u1_0)),(13,(.val (.int .i64) (ao (a1 -(1:Int)))))] [(0,some (.row 3 8 (.int .i64) (List.set (List.set a3 (Int.toNat a0) (nth (.int .i64) a3 a2)) (Int.toNat a2) (nth (.int .i64) a3 a0)))),(1,some (.row 23 32 aC a4))])) (Cl.loop (Cl.bp (Cl.j Cl.f))) ?_ ?_ ?_
   ·obtain⟨o6,h9,h7⟩:=bind_some h7
    refine ab.bV (fun σ'=>σ'=az 178 218 [(0,(.own 0)),(1,(.val (.int .i64) a0)),(4,(.func (.func 21) (.cons (.own 1) .nil) .nil)),(12,(.val (.int .i64) u1_0)),(13,(.val (.int .i64) (ao (a1 -(1:Int))))),(47,(.val .bool o6))] [(0,some (.row 3 8 (.int .i64) (List.set (List.set a3 (Int.toNat a0) (nth (.int .i64) a3 a2)) (Int.toNat a2) (nth (.int .i64) a3 a0)))),(1,some (.row 23 32 aC a4))]) ?_ ?_
    ·rcases aj h9 with⟨hg7,h9⟩|⟨hg7,h9⟩
     ·obtain⟨hv8,h9⟩:=ai h9
      obtain⟨hv9,h9⟩:=ai h9
      obtain⟨y10,hy11,h9⟩:=bind_some h9
      refine ab.fT tied [⟨(.val (.int .i64) y10),[],[],[],68⟩] [true] [] [(decide (u1_0≤(ao (a1 -(1:Int)))))=true,0≤u1_0,u1_0<(List.length (List.set (List.set a3 (Int.toNat a0) (nth (.int .i64) a3 a2)) (Int.toNat a2) (nth (.int .i64) a3 a0)):Int),0≤a0,a0<(List.length (List.set (List.set a3 (Int.toNat a0) (nth (.int .i64) a3 a2)) (Int.toNat a2) (nth (.int .i64) a3 a0)):Int),Fc Tryz.prog gl 21 [(.val (.slice 32 aC) a4),(.val (.int .i64) (nth (.int .i64) (List.set (List.set a3 (Int.toNat a0) (nth (.int .i64) a3 a2)) (Int.toNat a2) (nth (.int .i64) a3 a0)) u1_0)),(.val (.int .i64) (nth (.int .i64) (List.set (List.set a3 (Int.toNat a0) (nth (.int .i64) a3 a2)) (Int.toNat a2) (nth (.int .i64) a3 a0)) a0))] (aq (List.replicate 68 none) []) (.ret (.val (.int .i64) y10)) (aN 68 [])] (by kernel_rfl) ⟨hg7,hv8.1,hv8.2,hv9.1,hv9.2,zC _ _ _ _ hy11,trivial⟩ ?_
      obtain rfl:=Option.some.inj h9
      exact jQ.mk [.ar [0,1,4,12,13,47] [0,1]] (by kernel_rfl) rfl
     ·refine ab.fT tied [] [false] [] [(decide (u1_0≤(ao (a1 -(1:Int)))))=false] (by kernel_rfl) ⟨hg7,trivial⟩ ?_
      obtain rfl:=Option.some.inj h9
      exact jQ.mk [.ar [0,1,4,12,13,47] [0,1]] (by kernel_rfl) rfl
    ·rintro _ rfl
     rcases aj h7 with⟨hc12,h7⟩|⟨hc12,h7⟩
     ·refine ab.aI (b:=o6) (by kernel_rfl) hc12 ?_
      refine ab.skip ?_
      obtain rfl:=Option.some.inj h7
      exact l4.mk [.ar [0,1,4,12,13] [0,1]] (by kernel_rfl) ⟨_,rfl,rfl⟩
     ·refine ab.aH (b:=o6) (by kernel_rfl) hc12 ?_
      refine ab.exit ?_
      obtain rfl:=Option.some.inj h7
      exact l4.ex [.ar [0,1,4,12,13] [0,1]] (by kernel_rfl) ⟨rfl,_,rfl,rfl⟩
   ·rintro _ _ ⟨rfl,v14,rfl,rfl⟩
    ·dsimp only at h6
     refine lE ?_
     refine bE ?_
     obtain rfl:=Option.some.inj h6
     exact jQ.mk [.ar [0,1,4,12,13] [0,1]] (by kernel_rfl) rfl
   ·rintro _ ⟨v13,rfl,rfl⟩
    dsimp only at h6
    refine ab.block ?_
    refine ab.eI tied [] [] [] [] (by kernel_rfl) trivial ?_
    refine bN ?_
    exact aM.mk [.ar [0,1,4,12,13] [0,1]] (by kernel_rfl) ⟨_,h6,rfl⟩
 ·rintro _ rfl
  obtain⟨o15,h10,h⟩:=bind_some h
  refine ab.bV (fun σ'=>σ'=az 178 218 [(0,(.own 0)),(1,(.val (.int .i64) a0)),(4,(.func (.func 21) (.cons (.own 1) .nil) .nil)),(12,(.val (.int .i64) o4)),(13,(.val (.int .i64) o15))] [(0,some (.row 3 8 (.int .i64) (List.set (List.set a3 (Int.toNat a0) (nth (.int .i64) a3 a2)) (Int.toNat a2) (nth (.int .i64) a3 a0)))),(1,some (.row 23 32 aC a4))]) ?_ ?_
  ·refine ab.block ?_
   refine ab.aM (fun n σ=>∃(u2_0:Int),eQ a0 a2 a3 a4 o4 n u2_0=some o15∧σ=az 178 218 [(0,(.own 0)),(1,(.val (.int .i64) a0)),(4,(.func (.func 21) (.cons (.own 1) .nil) .nil)),(12,(.val (.int .i64) o4)),(13,(.val (.int .i64) u2_0))] [(0,some (.row 3 8 (.int .i64) (List.set (List.set a3 (Int.toNat a0) (nth (.int .i64) a3 a2)) (Int.toNat a2) (nth (.int .i64) a3 a0)))),(1,some (.row 23 32 aC a4))]) [.ar [0,1,4,12,13] [0,1]] (by kernel_rfl) ⟨_,h10,rfl⟩ ?_
   rintro n2 _ ⟨u2_0,h15,rfl⟩
   cases n2 with
   |zero=>exact absurd h15 (by simp[eQ])
   |
    succ n2=>
    unfold eQ at h15
    obtain⟨o16,h16,h15⟩:=bind_some h15
    refine ab.tj (fun σ'=>∃v24,o16= .brk v24∧σ'=az 178 218 [(0,(.own 0)),(1,(.val (.int .i64) a0)),(4,(.func (.func 21) (.cons (.own 1) .nil) .nil)),(12,(.val (.int .i64) o4)),(13,(.val (.int .i64) u2_0))] [(0,some (.row 3 8 (.int .i64) (List.set (List.set a3 (Int.toNat a0) (nth (.int .i64) a3 a2)) (Int.toNat a2) (nth (.int .i64) a3 a0)))),(1,some (.row 23 32 aC a4))]) (fun i σ'=>(i=2∧∃v25,o16= .ret v25∧σ'=az 178 218 [(0,(.own 0)),(1,(.val (.int .i64) a0)),(4,(.func (.func 21) (.cons (.own 1) .nil) .nil)),(12,(.val (.int .i64) o4)),(13,(.val (.int .i64) u2_0))] [(0,some (.row 3 8 (.int .i64) (List.set (List.set a3 (Int.toNat a0) (nth (.int .i64) a3 a2)) (Int.toNat a2) (nth (.int .i64) a3 a0)))),(1,some (.row 23 32 aC a4))])) (Cl.loop (Cl.bp (Cl.j Cl.f))) ?_ ?_ ?_
    ·obtain⟨o17,h18,h16⟩:=bind_some h16
     refine ab.bV (fun σ'=>σ'=az 178 218 [(0,(.own 0)),(1,(.val (.int .i64) a0)),(4,(.func (.func 21) (.cons (.own 1) .nil) .nil)),(12,(.val (.int .i64) o4)),(13,(.val (.int .i64) u2_0)),(66,(.val .bool o17))] [(0,some (.row 3 8 (.int .i64) (List.set (List.set a3 (Int.toNat a0) (nth (.int .i64) a3 a2)) (Int.toNat a2) (nth (.int .i64) a3 a0)))),(1,some (.row 23 32 aC a4))]) ?_ ?_
     ·rcases aj h18 with⟨hg18,h18⟩|⟨hg18,h18⟩
      ·obtain⟨hv19,h18⟩:=ai h18
       obtain⟨hv20,h18⟩:=ai h18
       obtain⟨y21,hy22,h18⟩:=bind_some h18
       refine ab.fT tied [⟨(.val (.int .i64) y21),[],[],[],68⟩] [true] [] [(decide (o4≤u2_0))=true,0≤u2_0,u2_0<(List.length (List.set (List.set a3 (Int.toNat a0) (nth (.int .i64) a3 a2)) (Int.toNat a2) (nth (.int .i64) a3 a0)):Int),0≤a0,a0<(List.length (List.set (List.set a3 (Int.toNat a0) (nth (.int .i64) a3 a2)) (Int.toNat a2) (nth (.int .i64) a3 a0)):Int),Fc Tryz.prog gl 21 [(.val (.slice 32 aC) a4),(.val (.int .i64) (nth (.int .i64) (List.set (List.set a3 (Int.toNat a0) (nth (.int .i64) a3 a2)) (Int.toNat a2) (nth (.int .i64) a3 a0)) u2_0)),(.val (.int .i64) (nth (.int .i64) (List.set (List.set a3 (Int.toNat a0) (nth (.int .i64) a3 a2)) (Int.toNat a2) (nth (.int .i64) a3 a0)) a0))] (aq (List.replicate 68 none) []) (.ret (.val (.int .i64) y21)) (aN 68 [])] (by kernel_rfl) ⟨hg18,hv19.1,hv19.2,hv20.1,hv20.2,zC _ _ _ _ hy22,trivial⟩ ?_
       obtain rfl:=Option.some.inj h18
       exact jQ.mk [.ar [0,1,4,12,13,66] [0,1]] (by kernel_rfl) rfl
      ·refine ab.fT tied [] [false] [] [(decide (o4≤u2_0))=false] (by kernel_rfl) ⟨hg18,trivial⟩ ?_
       obtain rfl:=Option.some.inj h18
       exact jQ.mk [.ar [0,1,4,12,13,66] [0,1]] (by kernel_rfl) rfl
     ·rintro _ rfl
      rcases aj h16 with⟨hc23,h16⟩|⟨hc23,h16⟩
      ·refine ab.aI (b:=o17) (by kernel_rfl) hc23 ?_
       refine ab.skip ?_
       obtain rfl:=Option.some.inj h16
       exact l4.mk [.ar [0,1,4,12,13] [0,1]] (by kernel_rfl) ⟨_,rfl,rfl⟩
      ·refine ab.aH (b:=o17) (by kernel_rfl) hc23 ?_
       refine ab.exit ?_
       obtain rfl:=Option.some.inj h16
       exact l4.ex [.ar [0,1,4,12,13] [0,1]] (by kernel_rfl) ⟨rfl,_,rfl,rfl⟩
    ·rintro _ _ ⟨rfl,v25,rfl,rfl⟩
     ·dsimp only at h15
      refine lE ?_
      refine bE ?_
      obtain rfl:=Option.some.inj h15
      exact jQ.mk [.ar [0,1,4,12,13] [0,1]] (by kernel_rfl) rfl
    ·rintro _ ⟨v24,rfl,rfl⟩
     dsimp only at h15
     refine ab.block ?_
     refine ab.eI tied [] [] [] [] (by kernel_rfl) trivial ?_
     refine bN ?_
     exact aM.mk [.ar [0,1,4,12,13] [0,1]] (by kernel_rfl) ⟨_,h15,rfl⟩
  ·rintro _ rfl
   refine ab.seq ?_
   refine ab.ak tied [] [] [] [] (by kernel_rfl) trivial ?_
   rcases aj h with⟨hc65,h⟩|⟨hc65,h⟩
   ·refine ab.aI (b:=decide (o15<o4)) (by kernel_rfl) hc65 ?_
    obtain⟨hv26,h⟩:=ai h
    obtain⟨hv27,h⟩:=ai h
    obtain⟨hv28,h⟩:=ai h
    refine ab.dL tied [] [] [] [0≤a0,a0<(List.length (List.set (List.set a3 (Int.toNat a0) (nth (.int .i64) a3 a2)) (Int.toNat a2) (nth (.int .i64) a3 a0)):Int),0≤o15,o15<(List.length (List.set (List.set a3 (Int.toNat a0) (nth (.int .i64) a3 a2)) (Int.toNat a2) (nth (.int .i64) a3 a0)):Int),0≤o15,o15<(List.length (List.set (List.set a3 (Int.toNat a0) (nth (.int .i64) a3 a2)) (Int.toNat a2) (nth (.int .i64) a3 a0)):Int),0≤a0,a0<(List.length (List.set (List.set (List.set a3 (Int.toNat a0) (nth (.int .i64) a3 a2)) (Int.toNat a2) (nth (.int .i64) a3 a0)) (Int.toNat o15) (nth (.int .i64) (List.set (List.set a3 (Int.toNat a0) (nth (.int .i64) a3 a2)) (Int.toNat a2) (nth (.int .i64) a3 a0)) a0)):Int)] (by kernel_rfl) ⟨hv2.1,hv26,hv27.1,hv27.2,hv27.1,hv27.2,hv2.1,hv28,trivial⟩ ?_
    refine ab.ak tied [] [] [] [] (by kernel_rfl) trivial ?_
    refine ab.ret ?_
    obtain rfl:=Option.some.inj h
    exact(aG [.ar [10,11] [0,1]] [some (.int .i64),some .bool] (fo 218 [0,1]) (by kernel_rfl)).1
   ·refine ab.aH (
     b:=decide (o15<o4)) (by kernel_rfl) hc65 ?_
    refine ab.skip ?_
    change ab _ _ _ _ _
    obtain⟨hv29,h⟩:=ai h
    obtain⟨hv30,h⟩:=ai h
    obtain⟨hv31,h⟩:=ai h
    refine ab.dL tied [] [] [] [0≤o15,o15<(List.length (List.set (List.set a3 (Int.toNat a0) (nth (.int .i64) a3 a2)) (Int.toNat a2) (nth (.int .i64) a3 a0)):Int),0≤o4,o4<(List.length (List.set (List.set a3 (Int.toNat a0) (nth (.int .i64) a3 a2)) (Int.toNat a2) (nth (.int .i64) a3 a0)):Int),0≤o4,o4<(List.length (List.set (List.set a3 (Int.toNat a0) (nth (.int .i64) a3 a2)) (Int.toNat a2) (nth (.int .i64) a3 a0)):Int),0≤o15,o15<(List.length (List.set (List.set (List.set a3 (Int.toNat a0) (nth (.int .i64) a3 a2)) (Int.toNat a2) (nth (.int .i64) a3 a0)) (Int.toNat o4) (nth (.int .i64) (List.set (List.set a3 (Int.toNat a0) (nth (.int .i64) a3 a2)) (Int.toNat a2) (nth (.int .i64) a3 a0)) o15)):Int)] (by kernel_rfl) ⟨hv29.1,hv29.2,hv30.1,hv30.2,hv30.1,hv30.2,hv29.1,hv31,trivial⟩ ?_
    refine ab.ak tied [] [] [] [] (by kernel_rfl) trivial ?_
    refine ab.ak tied [] [] [] [] (by kernel_rfl) trivial ?_
    obtain⟨o32,h19,h⟩:=bind_some h
    refine ab.bV (fun σ'=>σ'=az 178 218 [(0,(.own 0)),(1,(.val (.int .i64) a0)),(13,(.val (.int .i64) o32.1))] [(0,some (.row 3 8 (.int .i64) o32.2)),(1,some (.row 23 32 aC a4))]) ?_ ?_
    ·refine ab.block ?_
     refine ab.aM (fun n σ=>∃(u3_0:Int)(u3_1:Int)(u3_2:List Int),eT a0 a4 n u3_0 u3_1 u3_2=some o32∧σ=az 178 218 [(0,(.own 0)),(1,(.val (.int .i64) a0)),(4,(.func (.func 21) (.cons (.own 1) .nil) .nil)),(12,(.val (.int .i64) u3_0)),(13,(.val (.int .i64) u3_1))] [(0,some (.row 3 8 (.int .i64) u3_2)),(1,some (.row 23 32 aC a4))]) [.ar [0,1,4,12,13] [0,1]] (by kernel_rfl) ⟨_,_,_,h19,rfl⟩ ?_
     rintro n3 _ ⟨u3_0,u3_1,u3_2,h58,rfl⟩
     cases n3 with
     |zero=>exact absurd h58 (by simp[eT])
     |
      succ n3=>
      unfold eT at h58
      obtain⟨o33,h59,h58⟩:=bind_some h58
      refine ab.D8 (fun σ'=>∃v60,o33= .brk v60∧σ'=az 178 218 [(0,(.own 0)),(1,(.val (.int .i64) a0)),(4,(.func (.func 21) (.cons (.own 1) .nil) .nil)),(12,(.val (.int .i64) v60.1)),(13,(.val (.int .i64) v60.2.1))] [(0,some (.row 3 8 (.int .i64) v60.2.2)),(1,some (.row 23 32 aC a4))]) (fun i σ'=>(i=4∧∃v61,o33= .ret v61∧σ'=az 178 218 [(0,(.own 0)),(1,(.val (.int .i64) a0)),(13,(.val (.int .i64) v61))] [(0,some (.row 3 8 (.int .i64) u3_2)),(1,some (.row 23 32 aC a4))])) (Cl.loop (Cl.bp (Cl.j Cl.f))) ?_ ?_ ?_
      ·refine ab.block ?_
       obtain⟨o34,h78,h59⟩:=bind_some h59
       refine ab.bV (fun σ'=>σ'=az 178 218 [(0,(.own 0)),(1,(.val (.int .i64) a0)),(4,(.func (.func 21) (.cons (.own 1) .nil) .nil)),(12,(.val (.int .i64) o34)),(13,(.val (.int .i64) u3_1))] [(0,some (.row 3 8 (.int .i64) u3_2)),(1,some (.row 23 32 aC a4))]) ?_ ?_
       ·refine ab.block ?_
        refine ab.aM (fun n σ=>∃(u4_0:Int),eR a0 a4 u3_1 u3_2 n u4_0=some o34∧σ=az 178 218 [(0,(.own 0)),(1,(.val (.int .i64) a0)),(4,(.func (.func 21) (.cons (.own 1) .nil) .nil)),(12,(.val (.int .i64) u4_0)),(13,(.val (.int .i64) u3_1))] [(0,some (.row 3 8 (.int .i64) u3_2)),(1,some (.row 23 32 aC a4))]) [.ar [0,1,4,12,13] [0,1]] (by kernel_rfl) ⟨_,h78,rfl⟩ ?_
        rintro n4 _ ⟨u4_0,h83,rfl⟩
        cases n4 with
        |zero=>exact absurd h83 (by simp[eR])
        |
         succ n4=>
         unfold eR at h83
         obtain⟨o35,h84,h83⟩:=bind_some h83
         refine ab.tj (fun σ'=>∃v43,o35= .brk v43∧σ'=az 178 218 [(0,(.own 0)),(1,(.val (.int .i64) a0)),(4,(.func (.func 21) (.cons (.own 1) .nil) .nil)),(12,(.val (.int .i64) u4_0)),(13,(.val (.int .i64) u3_1))] [(0,some (.row 3 8 (.int .i64) u3_2)),(1,some (.row 23 32 aC a4))]) (fun i σ'=>(i=6∧∃v44,o35= .ret v44∧σ'=az 178 218 [(0,(.own 0)),(1,(.val (.int .i64) a0)),(4,(.func (.func 21) (.cons (.own 1) .nil) .nil)),(12,(.val (.int .i64) u4_0)),(13,(.val (.int .i64) u3_1))] [(0,some (.row 3 8 (.int .i64) u3_2)),(1,some (.row 23 32 aC a4))])) (Cl.loop (Cl.bp (Cl.j (Cl.bp Cl.jx)))) ?_ ?_ ?_
         ·obtain⟨o36,h86,h84⟩:=bind_some h84
          refine ab.bV (fun σ'=>σ'=az 178 218 [(0,(.own 0)),(1,(.val (.int .i64) a0)),(4,(.func (.func 21) (.cons (.own 1) .nil) .nil)),(12,(.val (.int .i64) u4_0)),(13,(.val (.int .i64) u3_1)),(120,(.val .bool o36))] [(0,some (.row 3 8 (.int .i64) u3_2)),(1,some (.row 23 32 aC a4))]) ?_ ?_
          ·rcases aj h86 with⟨hg37,h86⟩|⟨hg37,h86⟩
           ·obtain⟨hv38,h86⟩:=ai h86
            obtain⟨hv39,h86⟩:=ai h86
            obtain⟨y40,hy41,h86⟩:=bind_some h86
            refine ab.fT tied [⟨(.val (.int .i64) y40),[],[],[],68⟩] [true] [] [(decide (u4_0≤u3_1))=true,0≤u4_0,u4_0<(List.length u3_2:Int),0≤a0,a0<(List.length u3_2:Int),Fc Tryz.prog gl 21 [(.val (.slice 32 aC) a4),(.val (.int .i64) (nth (.int .i64) u3_2 u4_0)),(.val (.int .i64) (nth (.int .i64) u3_2 a0))] (aq (List.replicate 68 none) []) (.ret (.val (.int .i64) y40)) (aN 68 [])] (by kernel_rfl) ⟨hg37,hv38.1,hv38.2,hv39.1,hv39.2,zC _ _ _ _ hy41,trivial⟩ ?_
            obtain rfl:=Option.some.inj h86
            exact jQ.mk [.ar [0,1,4,12,13,120] [0,1]] (by kernel_rfl) rfl
           ·refine ab.fT tied [] [false] [] [(decide (u4_0≤u3_1))=false] (by kernel_rfl) ⟨hg37,trivial⟩ ?_
            obtain rfl:=Option.some.inj h86
            exact jQ.mk [.ar [0,1,4,12,13,120] [0,1]] (by kernel_rfl) rfl
          ·rintro _ rfl
           rcases aj h84 with⟨hc42,h84⟩|⟨hc42,h84⟩
           ·refine ab.aI (b:=o36) (by kernel_rfl) hc42 ?_
            refine ab.skip ?_
            obtain rfl:=Option.some.inj h84
            exact l4.mk [.ar [0,1,4,12,13] [0,1]] (by kernel_rfl) ⟨_,rfl,rfl⟩
           ·refine ab.aH (b:=o36) (by kernel_rfl) hc42 ?_
            refine ab.exit ?_
            obtain rfl:=Option.some.inj h84
            exact l4.ex [.ar [0,1,4,12,13] [0,1]] (by kernel_rfl) ⟨rfl,_,rfl,rfl⟩
         ·rintro _ _ ⟨rfl,v44,rfl,rfl⟩
          ·dsimp only at h83
           refine lE ?_
           refine bE ?_
           obtain rfl:=Option.some.inj h83
           exact jQ.mk [.ar [0,1,4,12,13] [0,1]] (by kernel_rfl) rfl
         ·rintro _ ⟨v43,rfl,rfl⟩
          dsimp only at h83
          refine ab.block ?_
          refine ab.eI tied [] [] [] [] (by kernel_rfl) trivial ?_
          refine bN ?_
          exact aM.mk [.ar [0,1,4,12,13] [0,1]] (by kernel_rfl) ⟨_,h83,rfl⟩
       ·rintro _ rfl
        obtain⟨o45,h87,h59⟩:=bind_some h59
        refine ab.bV (fun σ'=>σ'=az 178 218 [(0,(.own 0)),(1,(.val (.int .i64) a0)),(4,(.func (.func 21) (.cons (.own 1) .nil) .nil)),(12,(.val (.int .i64) o34)),(13,(.val (.int .i64) o45))] [(0,some (.row 3 8 (.int .i64) u3_2)),(1,some (.row 23 32 aC a4))]) ?_ ?_
        ·refine ab.block ?_
         refine ab.aM (fun n σ=>∃(u5_0:Int),eS a0 a4 u3_2 o34 n u5_0=some o45∧σ=az 178 218 [(0,(.own 0)),(1,(.val (.int .i64) a0)),(4,(.func (.func 21) (.cons (.own 1) .nil) .nil)),(12,(.val (.int .i64) o34)),(13,(.val (.int .i64) u5_0))] [(0,some (.row 3 8 (.int .i64) u3_2)),(1,some (.row 23 32 aC a4))]) [.ar [0,1,4,12,13] [0,1]] (by kernel_rfl) ⟨_,h87,rfl⟩ ?_
         rintro n5 _ ⟨u5_0,h92,rfl⟩
         cases n5 with
         |zero=>exact absurd h92 (by simp[eS])
         |
          succ n5=>
          unfold eS at h92
          obtain⟨o46,h93,h92⟩:=bind_some h92
          refine ab.tj (fun σ'=>∃v54,o46= .brk v54∧σ'=az 178 218 [(0,(.own 0)),(1,(.val (.int .i64) a0)),(4,(.func (.func 21) (.cons (.own 1) .nil) .nil)),(12,(.val (.int .i64) o34)),(13,(.val (.int .i64) u5_0))] [(0,some (.row 3 8 (.int .i64) u3_2)),(1,some (.row 23 32 aC a4))]) (fun i σ'=>(i=8∧∃v55,o46= .ret v55∧σ'=az 178 218 [(0,(.own 0)),(1,(.val (.int .i64) a0)),(4,(.func (.func 21) (.cons (.own 1) .nil) .nil)),(12,(.val (.int .i64) o34)),(13,(.val (.int .i64) u5_0))] [(0,some (.row 3 8 (.int .i64) u3_2)),(1,some (.row 23 32 aC a4))])) (Cl.loop (Cl.bp (Cl.j (Cl.bp Cl.jx)))) ?_ ?_ ?_
          ·obtain⟨o47,h95,h93⟩:=bind_some h93
           refine ab.bV (fun σ'=>σ'=az 178 218 [(0,(.own 0)),(1,(.val (.int .i64) a0)),(4,(.func (.func 21) (.cons (.own 1) .nil) .nil)),(12,(.val (.int .i64) o34)),(13,(.val (.int .i64) u5_0)),(139,(.val .bool o47))] [(0,some (.row 3 8 (.int .i64) u3_2)),(1,some (.row 23 32 aC a4))]) ?_ ?_
           ·rcases aj h95 with⟨hg48,h95⟩|⟨hg48,h95⟩
            ·obtain⟨hv49,h95⟩:=ai h95
             obtain⟨hv50,h95⟩:=ai h95
             obtain⟨y51,hy52,h95⟩:=bind_some h95
             refine ab.fT tied [⟨(.val (.int .i64) y51),[],[],[],68⟩] [true] [] [(decide (o34≤u5_0))=true,0≤u5_0,u5_0<(List.length u3_2:Int),0≤a0,a0<(List.length u3_2:Int),Fc Tryz.prog gl 21 [(.val (.slice 32 aC) a4),(.val (.int .i64) (nth (.int .i64) u3_2 u5_0)),(.val (.int .i64) (nth (.int .i64) u3_2 a0))] (aq (List.replicate 68 none) []) (.ret (.val (.int .i64) y51)) (aN 68 [])] (by kernel_rfl) ⟨hg48,hv49.1,hv49.2,hv50.1,hv50.2,zC _ _ _ _ hy52,trivial⟩ ?_
             obtain rfl:=Option.some.inj h95
             exact jQ.mk [.ar [0,1,4,12,13,139] [0,1]] (by kernel_rfl) rfl
            ·refine ab.fT tied [] [false] [] [(decide (o34≤u5_0))=false] (by kernel_rfl) ⟨hg48,trivial⟩ ?_
             obtain rfl:=Option.some.inj h95
             exact jQ.mk [.ar [0,1,4,12,13,139] [0,1]] (by kernel_rfl) rfl
           ·rintro _ rfl
            rcases aj h93 with⟨hc53,h93⟩|⟨hc53,h93⟩
            ·refine ab.aI (b:=o47) (by kernel_rfl) hc53 ?_
             refine ab.skip ?_
             obtain rfl:=Option.some.inj h93
             exact l4.mk [.ar [0,1,4,12,13] [0,1]] (by kernel_rfl) ⟨_,rfl,rfl⟩
            ·refine ab.aH (b:=o47) (by kernel_rfl) hc53 ?_
             refine ab.exit ?_
             obtain rfl:=Option.some.inj h93
             exact l4.ex [.ar [0,1,4,12,13] [0,1]] (by kernel_rfl) ⟨rfl,_,rfl,rfl⟩
          ·rintro _ _ ⟨rfl,v55,rfl,rfl⟩
           ·dsimp only at h92
            refine lE ?_
            refine bE ?_
            obtain rfl:=Option.some.inj h92
            exact jQ.mk [.ar [0,1,4,12,13] [0,1]] (by kernel_rfl) rfl
          ·rintro _ ⟨v54,rfl,rfl⟩
           dsimp only at h92
           refine ab.block ?_
           refine ab.eI tied [] [] [] [] (by kernel_rfl) trivial ?_
           refine bN ?_
           exact aM.mk [.ar [0,1,4,12,13] [0,1]] (by kernel_rfl) ⟨_,h92,rfl⟩
        ·rintro _ rfl
         refine ab.seq ?_
         refine ab.ak tied [] [] [] [] (by kernel_rfl) trivial ?_
         rcases aj h59 with⟨hc59,h59⟩|⟨hc59,h59⟩
         ·refine ab.aI (b:=decide (o45<o34)) (by kernel_rfl) hc59 ?_
          refine ab.exit ?_
          refine tE ?_
          refine bO rfl ?_
          obtain rfl:=Option.some.inj h59
          exact l4.ex [.ar [0,1,13] [0,1]] (by kernel_rfl) ⟨rfl,_,rfl,rfl⟩
         ·refine ab.aH (b:=decide (o45<o34)) (by kernel_rfl) hc59 ?_
          refine ab.skip ?_
          change ab _ _ _ _ _
          obtain⟨hv56,h59⟩:=ai h59
          obtain⟨hv57,h59⟩:=ai h59
          obtain⟨hv58,h59⟩:=ai h59
          refine ab.dL tied [] [] [] [0≤o45,o45<(List.length u3_2:Int),0≤o34,o34<(List.length u3_2:Int),0≤o34,o34<(List.length u3_2:Int),0≤o45,o45<(List.length (List.set u3_2 (Int.toNat o34) (nth (.int .i64) u3_2 o45)):Int)] (by kernel_rfl) ⟨hv56.1,hv56.2,hv57.1,hv57.2,hv57.1,hv57.2,hv56.1,hv58,trivial⟩ ?_
          refine ab.ak tied [] [] [] [] (by kernel_rfl) trivial ?_
          refine ab.eI tied [] [] [] [] (by kernel_rfl) trivial ?_
          refine bN ?_
          obtain rfl:=Option.some.inj h59
          exact l4.mk [.ar [0,1,4,12,13] [0,1]] (by kernel_rfl) ⟨_,rfl,rfl⟩
      ·rintro _ _ ⟨rfl,v61,rfl,rfl⟩
       ·dsimp only at h58
        refine lE ?_
        refine bE ?_
        obtain rfl:=Option.some.inj h58
        exact jQ.mk [.ar [0,1,13] [0,1]] (by kernel_rfl) rfl
      ·rintro _ ⟨v60,rfl,rfl⟩
       dsimp only at h58
       exact aM.mk [.ar [0,1,4,12,13] [0,1]] (by kernel_rfl) ⟨_,_,_,h58,rfl⟩
    ·rintro _ rfl
     obtain⟨hv62,h⟩:=ai h
     obtain⟨hv63,h⟩:=ai h
     obtain⟨hv64,h⟩:=ai h
     refine ab.dL tied [] [] [] [0≤a0,a0<(List.length o32.2:Int),0≤o32.1,o32.1<(List.length o32.2:Int),0≤o32.1,o32.1<(List.length o32.2:Int),0≤a0,a0<(List.length (List.set o32.2 (Int.toNat o32.1) (nth (.int .i64) o32.2 a0)):Int)] (by kernel_rfl) ⟨hv2.1,hv62,hv63.1,hv63.2,hv63.1,hv63.2,hv2.1,hv64,trivial⟩ ?_
     refine ab.ak tied [] [] [] [] (by kernel_rfl) trivial ?_
     refine ab.ret ?_
     obtain rfl:=Option.some.inj h
     exact(aG [.ar [10,11] [0,1]] [some (.int .i64),some .bool] (fo 218 [0,1]) (by kernel_rfl)).1
def iX(a0:Int)(a1:Int)(a2:Int)(a3:List Int)(a4:List bz):Nat→Option (lz Unit ((List Int)×(List bz)))
 |0=>none
 |n1+1=>if(decide ((ao (a1 -a0))≤(12:Int)))=true then(Option.bind (mL a0 a1 a3 a4) fun y2=>some (.ret (y2.1,y2.2))) else none
def nD(a0:Int)(a1:Int)(a2:Int)(a3:List Int)(a4:List bz):Option ((List Int)×(List bz)):=
 Option.bind (iX a0 a1 a2 a3 a4 (cS)) fun(o1:lz Unit ((List Int)×(List bz)))=>match o1 with| .brk _v5=>none| .ret r6=>(some r6)
set_option maxRecDepth 100000 in
theorem B2(a0:Int)(a1:Int)(a2:Int)(a3:List Int)(a4:List bz)(r:(List Int)×(List bz))(h:nD a0 a1 a2 a3 a4=some r):Fc Tryz.prog gl 43 [(.own 0),(.val (.int .i64) a0),(.val (.int .i64) a1),(.val (.int .i64) a2),(.func (.func 21) (.cons (.own 1) .nil) .nil)] (aq (List.replicate 188 none) [(0,some (.row 3 8 (.int .i64) a3)),(1,some (.row 23 32 aC a4))]) (.ret (.bJ .nil)) (aN 188 [(0,(.row 3 8 (.int .i64) r.1)),(1,(.row 23 32 aC r.2))]):=by
 refine Fc.of Tryz.call43 (dq.aU tied Tryz.func43 rfl rfl (σ0:=az 148 188 [(0,(.own 0)),(1,(.val (.int .i64) a0)),(2,(.val (.int .i64) a1)),(3,(.val (.int .i64) a2)),(4,(.func (.func 21) (.cons (.own 1) .nil) .nil))] [(0,some (.row 3 8 (.int .i64) a3)),(1,some (.row 23 32 aC a4))]) (by kernel_rfl) ?_)
 unfold nD at h
 refine ab.ak tied [] [] [] [] (by kernel_rfl) trivial ?_
 refine ab.ak tied [] [] [] [] (by kernel_rfl) trivial ?_
 obtain⟨o1,h1,h⟩:=bind_some h
 refine ab.kM (fun σ'=>∃v5,o1= .brk v5∧σ'=az 148 188 [] []) Cl.f ?_ ?_
 ·refine ab.block ?_
  refine ab.aM (fun n σ=>iX a0 a1 a2 a3 a4 n=some o1∧σ=az 148 188 [(0,(.own 0)),(1,(.val (.int .i64) a0)),(2,(.val (.int .i64) a1)),(3,(.val (.int .i64) a2)),(4,(.func (.func 21) (.cons (.own 1) .nil) .nil)),(10,(.val .bool true)),(11,(.val .bool true))] [(0,some (.row 3 8 (.int .i64) a3)),(1,some (.row 23 32 aC a4))]) [.ar [0,1,2,3,4,10,11] [0,1]] (by kernel_rfl) ⟨h1,rfl⟩ ?_
  rintro n1 _ ⟨h3,rfl⟩
  cases n1 with
  |zero=>exact absurd h3 (by simp[iX])
  |
   succ n1=>
   unfold iX at h3
   refine ab.block ?_
   refine ab.ak tied [] [] [] [] (by kernel_rfl) trivial ?_
   refine ab.seq ?_
   refine ab.ak tied [] [] [] [] (by kernel_rfl) trivial ?_
   rcases aj h3 with⟨hc4,h3⟩|⟨hc4,h3⟩
   ·refine ab.aI (b:=decide ((ao (a1 -a0))≤(12:Int))) (by kernel_rfl) hc4 ?_
    obtain⟨y2,hy3,h3⟩:=bind_some h3
    refine ab.ak tied [⟨(.bJ .nil),[(0,0),(1,1)],[],[(0,(.row 3 8 (.int .i64) y2.1)),(1,(.row 23 32 aC y2.2))],93⟩] [] [] [Fc Tryz.prog gl 68 [(.own 0),(.val (.int .i64) a0),(.val (.int .i64) a1),(.func (.func 21) (.cons (.own 1) .nil) .nil)] (aq (List.replicate 93 none) [(0,some (.row 3 8 (.int .i64) a3)),(1,some (.row 23 32 aC a4))]) (.ret (.bJ .nil)) (aN 93 [(0,(.row 3 8 (.int .i64) y2.1)),(1,(.row 23 32 aC y2.2))])] (by kernel_rfl) ⟨Am _ _ _ _ _ hy3,trivial⟩ ?_
    refine ab.ret ?_
    obtain rfl:=Option.some.inj h3
    dsimp only at h
    obtain rfl:=Option.some.inj h
    exact(aG [.ar [] [0,1]] [] (fo 188 [0,1]) (by kernel_rfl)).1
   ·refine ab.aH (b:=decide ((ao (a1 -a0))≤(12:Int))) (by kernel_rfl) hc4 ?_
    refine ab.skip ?_
    change ab _ _ _ _ _
    refine ab.seq ?_
    cases h3
 ·rintro _ ⟨v5,rfl,rfl⟩
  dsimp only at h
  cases h
def cM:Nat→Int→Int→Int→Bool→Bool→(List Int)→(List bz)→Option (lz Unit ((List Int)×(List bz)))
 |0,_,_,_,_,_,_,_=>none
 |n1+1,u1_0,u1_1,u1_2,u1_3,u1_4,u1_5,u1_6=>if(decide ((ao (u1_1 -u1_0))≤(12:Int)))=true then(Option.bind (mL u1_0 u1_1 u1_5 u1_6) fun y2=>some (.ret (y2.1,y2.2))) else(if(decide (u1_2=(0:Int)))=true then none else(Option.bind (if(!u1_3)=true then(Option.bind (fu u1_0 u1_1 u1_5 u1_6) fun y5=>some (ao (u1_2 -(1:Int)),y5.1,y5.2)) else(some (u1_2,u1_5,u1_6))) fun(o4:Int×(List Int)×(List bz))=>Option.bind (pa o4.2.1 u1_0 u1_1 o4.2.2) fun y8=>Option.bind (if(decide (y8.2=(2:Int)))=true then(Option.bind (mM u1_0 u1_1 o4.2.1 o4.2.2) fun y11=>some (ao ((ao (u1_1 -(1:Int))) -(ao (y8.1 -u1_0))),(1:Int),y11.1,y11.2)) else(some (y8.1,y8.2,o4.2.1,o4.2.2))) fun(o10:Int×Int×(List Int)×(List bz))=>Option.bind (Option.bind (if u1_3=true then(if u1_4=true then(some (decide (o10.2.1=(1:Int)))) else(some false)) else(some false)) fun(o15:Bool)=>if o15=true then(Option.bind (mN u1_0 u1_1 o10.2.2.1 o10.2.2.2) fun y18=>if y18.1=true then(some (.ret (y18.2.1,y18.2.2))) else(some (.brk (y18.2.1,y18.2.2)))) else(some (.brk (o10.2.2.1,o10.2.2.2)))) fun(o14:lz ((List Int)×(List bz)) ((List Int)×(List bz)))=>match o14 with| .brk v22=>(Option.bind (Option.bind (if(decide ((0:Int)<u1_0))=true then(if 0≤(ao (u1_0 -(1:Int)))∧(ao (u1_0 -(1:Int)))<(List.length v22.1:Int) then(if 0≤o10.1∧o10.1<(List.length v22.1:Int) then(Option.bind (f21 v22.2 (nth (.int .i64) v22.1 (ao (u1_0 -(1:Int)))) (nth (.int .i64) v22.1 o10.1)) fun y28=>some (!(decide (y28<(0:Int))))) else none) else none) else(some false)) fun(o24:Bool)=>if o24=true then(Option.bind (pc u1_0 u1_1 o10.1 v22.1 v22.2) fun y30=>some (.ret (y30.1,y30.2.1,y30.2.2))) else(some (.brk ()))) fun(o23:lz Unit (Int×(List Int)×(List bz)))=>match o23 with| .brk _v33=>(Option.bind (qz u1_0 u1_1 o10.1 v22.1 v22.2) fun y34=>if(decide ((ao (y34.1 -u1_0))<(ao (u1_1 -y34.1))))=true then(Option.bind (nD u1_0 y34.1 o4.1 y34.2.2.1 y34.2.2.2) fun y36=>cM n1 (ao (y34.1+(1:Int))) u1_1 o4.1 (decide ((ao (Int.tdiv (ao (u1_1 -u1_0)) (8:Int)))≤(ao (y34.1 -u1_0)))) y34.2.1 y36.1 y36.2) else(Option.bind (nD (ao (y34.1+(1:Int))) u1_1 o4.1 y34.2.2.1 y34.2.2.2) fun y38=>cM n1 u1_0 y34.1 o4.1 (decide ((ao (Int.tdiv (ao (u1_1 -u1_0)) (8:Int)))≤(ao (u1_1 -y34.1)))) y34.2.1 y38.1 y38.2))| .ret v41=>(cM n1 v41.1 u1_1 o4.1 u1_3 u1_4 v41.2.1 v41.2.2))| .ret r42=>(some (.ret r42))))
def tM(a0:Int)(a1:Int)(a2:Int)(a3:List Int)(a4:List bz):Option ((List Int)×(List bz)):=
 Option.bind (cM (cS) a0 a1 a2 true true a3 a4) fun(o1:lz Unit ((List Int)×(List bz)))=>match o1 with| .brk _v45=>none| .ret r46=>(some r46)
set_option maxRecDepth 100000 in
theorem FM(
 a0:Int) (a1:Int) (a2:Int) (a3:List Int) (a4:List bz) (r:(List Int)×(List bz)) (h:tM a0 a1 a2 a3 a4=some r):Fc Tryz.prog gl 43 [(.own 0),(.val (.int .i64) a0),(.val (.int .i64) a1),(.val (.int .i64) a2),(.func (.func 21) (.cons (.own 1) .nil) .nil)] (aq (List.replicate 188 none) [(0,some (.row 3 8 (.int .i64) a3)),(1,some (.row 23 32 aC a4))]) (.ret (.bJ .nil)) (aN 188 [(0,(.row 3 8 (.int .i64) r.1)),(1,(.row 23 32 aC r.2))]):=by
 refine Fc.of Tryz.call43 (dq.aU tied Tryz.func43 rfl rfl (σ0:=az 148 188 [(0,(.own 0)),(1,(.val (.int .i64) a0)),(2,(.val (.int .i64) a1)),(3,(.val (.int .i64) a2)),(4,(.func (.func 21) (.cons (.own 1) .nil) .nil))] [(0,some (.row 3 8 (.int .i64) a3)),(1,some (.row 23 32 aC a4))]) (by kernel_rfl) ?_)
 unfold tM at h
 refine ab.ak tied [] [] [] [] (by kernel_rfl) trivial ?_
 refine ab.ak tied [] [] [] [] (by kernel_rfl) trivial ?_
 obtain⟨o1,h1,h⟩:=bind_some h
 refine ab.kM (fun σ'=>∃Is,o1= .brk Is∧σ'=az 148 188 [] []) Cl.f ?_ ?_
 ·refine ab.block ?_
  refine ab.aM (fun n σ=>∃(u1_0:Int)(u1_1:Int)(u1_2:Int)(u1_3:Bool)(u1_4:Bool)(u1_5:List Int)(u1_6:List bz),cM n u1_0 u1_1 u1_2 u1_3 u1_4 u1_5 u1_6=some o1∧σ=az 148 188 [(0,(.own 0)),(1,(.val (.int .i64) u1_0)),(2,(.val (.int .i64) u1_1)),(3,(.val (.int .i64) u1_2)),(4,(.func (.func 21) (.cons (.own 1) .nil) .nil)),(10,(.val .bool u1_3)),(11,(.val .bool u1_4))] [(0,some (.row 3 8 (.int .i64) u1_5)),(1,some (.row 23 32 aC u1_6))]) [.ar [0,1,2,3,4,10,11] [0,1]] (by kernel_rfl) ⟨_,_,_,_,_,_,_,h1,rfl⟩ ?_
  rintro n1 _ ⟨u1_0,u1_1,u1_2,u1_3,u1_4,u1_5,u1_6,h11,rfl⟩
  cases n1 with
  |zero=>exact absurd h11 (by simp[cM])
  |
   succ n1=>
   unfold cM at h11
   refine ab.block ?_
   refine ab.ak tied [] [] [] [] (by kernel_rfl) trivial ?_
   refine ab.seq ?_
   refine ab.ak tied [] [] [] [] (by kernel_rfl) trivial ?_
   rcases aj h11 with⟨hc44,h11⟩|⟨hc44,h11⟩
   ·refine ab.aI (b:=decide ((ao (u1_1 -u1_0))≤(12:Int))) (by kernel_rfl) hc44 ?_
    obtain⟨y2,hy3,h11⟩:=bind_some h11
    refine ab.ak tied [⟨(.bJ .nil),[(0,0),(1,1)],[],[(0,(.row 3 8 (.int .i64) y2.1)),(1,(.row 23 32 aC y2.2))],93⟩] [] [] [Fc Tryz.prog gl 68 [(.own 0),(.val (.int .i64) u1_0),(.val (.int .i64) u1_1),(.func (.func 21) (.cons (.own 1) .nil) .nil)] (aq (List.replicate 93 none) [(0,some (.row 3 8 (.int .i64) u1_5)),(1,some (.row 23 32 aC u1_6))]) (.ret (.bJ .nil)) (aN 93 [(0,(.row 3 8 (.int .i64) y2.1)),(1,(.row 23 32 aC y2.2))])] (by kernel_rfl) ⟨Am _ _ _ _ _ hy3,trivial⟩ ?_
    refine ab.ret ?_
    obtain rfl:=Option.some.inj h11
    dsimp only at h
    obtain rfl:=Option.some.inj h
    exact(aG [.ar [] [0,1]] [] (fo 188 [0,1]) (by kernel_rfl)).1
   ·refine ab.aH (b:=decide ((ao (u1_1 -u1_0))≤(12:Int))) (by kernel_rfl) hc44 ?_
    refine ab.skip ?_
    change ab _ _ _ _ _
    refine ab.seq ?_
    refine ab.ak tied [] [] [] [] (by kernel_rfl) trivial ?_
    rcases aj h11 with⟨hc43,h11⟩|⟨hc43,h11⟩
    ·refine ab.aI (b:=decide (u1_2=(0:Int))) (by kernel_rfl) hc43 ?_
     cases h11
    ·refine ab.aH (b:=decide (u1_2=(0:Int))) (by kernel_rfl) hc43 ?_
     refine ab.skip ?_
     change ab _ _ _ _ _
     obtain⟨o4,h12,h11⟩:=bind_some h11
     refine ab.bV (fun σ'=>σ'=az 148 188 [(0,(.own 0)),(1,(.val (.int .i64) u1_0)),(2,(.val (.int .i64) u1_1)),(3,(.val (.int .i64) o4.1)),(4,(.func (.func 21) (.cons (.own 1) .nil) .nil)),(10,(.val .bool u1_3)),(11,(.val .bool u1_4)),(12,(.val (.int .i64) (ao (u1_1 -u1_0))))] [(0,some (.row 3 8 (.int .i64) o4.2.1)),(1,some (.row 23 32 aC o4.2.2))]) ?_ ?_
     ·refine ab.ak tied [] [] [] [] (by kernel_rfl) trivial ?_
      rcases aj h12 with⟨hc7,h12⟩|⟨hc7,h12⟩
      ·refine ab.aI (b:= !u1_3) (by kernel_rfl) hc7 ?_
       obtain⟨y5,hy6,h12⟩:=bind_some h12
       refine ab.ak tied [⟨(.bJ .nil),[(0,0),(1,1)],[],[(0,(.row 3 8 (.int .i64) y5.1)),(1,(.row 23 32 aC y5.2))],107⟩] [] [] [Fc Tryz.prog gl 70 [(.own 0),(.val (.int .i64) u1_0),(.val (.int .i64) u1_1),(.func (.func 21) (.cons (.own 1) .nil) .nil)] (aq (List.replicate 107 none) [(0,some (.row 3 8 (.int .i64) u1_5)),(1,some (.row 23 32 aC u1_6))]) (.ret (.bJ .nil)) (aN 107 [(0,(.row 3 8 (.int .i64) y5.1)),(1,(.row 23 32 aC y5.2))])] (by kernel_rfl) ⟨ED _ _ _ _ _ hy6,trivial⟩ ?_
       refine ab.eI tied [] [] [] [] (by kernel_rfl) trivial ?_
       obtain rfl:=Option.some.inj h12
       exact jQ.mk [.ar [0,1,2,3,4,10,11,12] [0,1]] (by kernel_rfl) rfl
      ·refine ab.aH (b:= !u1_3) (by kernel_rfl) hc7 ?_
       refine ab.skip ?_
       obtain rfl:=Option.some.inj h12
       exact jQ.mk [.ar [0,1,2,3,4,10,11,12] [0,1]] (by kernel_rfl) rfl
     ·rintro _ rfl
      obtain⟨y8,hy9,h11⟩:=bind_some h11
      refine ab.ak tied [⟨(.bJ (.cons (.val (.int .i64) y8.1) (.cons (.val (.int .i64) y8.2) .nil))),[],[],[],103⟩] [] [] [Fc Tryz.prog gl 71 [(.val (.slice 8 (.int .i64)) o4.2.1),(.val (.int .i64) u1_0),(.val (.int .i64) u1_1),(.func (.func 21) (.cons (.val (.slice 32 aC) o4.2.2) .nil) .nil)] (aq (List.replicate 103 none) []) (.ret (.bJ (.cons (.val (.int .i64) y8.1) (.cons (.val (.int .i64) y8.2) .nil)))) (aN 103 [])] (by kernel_rfl) ⟨EE _ _ _ _ _ hy9,trivial⟩ ?_
      obtain⟨o10,h13,h11⟩:=bind_some h11
      refine ab.bV (fun σ'=>σ'=az 148 188 [(0,(.own 0)),(1,(.val (.int .i64) u1_0)),(2,(.val (.int .i64) u1_1)),(3,(.val (.int .i64) o4.1)),(4,(.func (.func 21) (.cons (.own 1) .nil) .nil)),(10,(.val .bool u1_3)),(11,(.val .bool u1_4)),(12,(.val (.int .i64) (ao (u1_1 -u1_0)))),(13,(.val (.int .i64) o10.1)),(14,(.val (.int .i64) o10.2.1))] [(0,some (.row 3 8 (.int .i64) o10.2.2.1)),(1,some (.row 23 32 aC o10.2.2.2))]) ?_ ?_
      ·refine ab.ak tied [] [] [] [] (by kernel_rfl) trivial ?_
       rcases aj h13 with⟨hc13,h13⟩|⟨hc13,h13⟩
       ·refine ab.aI (b:=decide (y8.2=(2:Int))) (by kernel_rfl) hc13 ?_
        obtain⟨y11,hy12,h13⟩:=bind_some h13
        refine ab.ak tied [⟨(.bJ .nil),[(0,0),(1,1)],[],[(0,(.row 3 8 (.int .i64) y11.1)),(1,(.row 23 32 aC y11.2))],74⟩] [] [] [Fc Tryz.prog gl 72 [(.own 0),(.val (.int .i64) u1_0),(.val (.int .i64) u1_1),(.func (.func 21) (.cons (.own 1) .nil) .nil)] (aq (List.replicate 74 none) [(0,some (.row 3 8 (.int .i64) o4.2.1)),(1,some (.row 23 32 aC o4.2.2))]) (.ret (.bJ .nil)) (aN 74 [(0,(.row 3 8 (.int .i64) y11.1)),(1,(.row 23 32 aC y11.2))])] (by kernel_rfl) ⟨EM _ _ _ _ _ hy12,trivial⟩ ?_
        refine ab.ak tied [] [] [] [] (by kernel_rfl) trivial ?_
        refine ab.eI tied [] [] [] [] (by kernel_rfl) trivial ?_
        obtain rfl:=Option.some.inj h13
        exact jQ.mk [.ar [0,1,2,3,4,10,11,12,13,14] [0,1]] (by kernel_rfl) rfl
       ·refine ab.aH (b:=decide (y8.2=(2:Int))) (by kernel_rfl) hc13 ?_
        refine ab.skip ?_
        obtain rfl:=Option.some.inj h13
        exact jQ.mk [.ar [0,1,2,3,4,10,11,12,13,14] [0,1]] (by kernel_rfl) rfl
      ·rintro _ rfl
       obtain⟨o14,h14,h11⟩:=bind_some h11
       refine ab.bV (fun σ'=>∃v22,o14= .brk v22∧σ'=az 148 188 [(0,(.own 0)),(1,(.val (.int .i64) u1_0)),(2,(.val (.int .i64) u1_1)),(3,(.val (.int .i64) o4.1)),(4,(.func (.func 21) (.cons (.own 1) .nil) .nil)),(10,(.val .bool u1_3)),(11,(.val .bool u1_4)),(12,(.val (.int .i64) (ao (u1_1 -u1_0)))),(13,(.val (.int .i64) o10.1))] [(0,some (.row 3 8 (.int .i64) v22.1)),(1,some (.row 23 32 aC v22.2))]) ?_ ?_
       ·obtain⟨o15,h16,h14⟩:=bind_some h14
        refine ab.bV (fun σ'=>σ'=az 148 188 [(0,(.own 0)),(1,(.val (.int .i64) u1_0)),(2,(.val (.int .i64) u1_1)),(3,(.val (.int .i64) o4.1)),(4,(.func (.func 21) (.cons (.own 1) .nil) .nil)),(10,(.val .bool u1_3)),(11,(.val .bool u1_4)),(12,(.val (.int .i64) (ao (u1_1 -u1_0)))),(13,(.val (.int .i64) o10.1)),(75,(.val .bool o15))] [(0,some (.row 3 8 (.int .i64) o10.2.2.1)),(1,some (.row 23 32 aC o10.2.2.2))]) ?_ ?_
        ·rcases aj h16 with⟨hg16,h16⟩|⟨hg16,h16⟩
         ·rcases aj h16 with⟨hg17,h16⟩|⟨hg17,h16⟩
          ·refine ab.eI tied [] [true,true] [] [u1_3=true,u1_4=true] (by kernel_rfl) ⟨hg16,hg17,trivial⟩ ?_
           obtain rfl:=Option.some.inj h16
           exact jQ.mk [.ar [0,1,2,3,4,10,11,12,13,75] [0,1]] (by kernel_rfl) rfl
          ·refine ab.eI tied [] [true,false] [] [u1_3=true,u1_4=false] (by kernel_rfl) ⟨hg16,hg17,trivial⟩ ?_
           obtain rfl:=Option.some.inj h16
           exact jQ.mk [.ar [0,1,2,3,4,10,11,12,13,75] [0,1]] (by kernel_rfl) rfl
         ·refine ab.eI tied [] [false,false] [] [u1_3=false,false=false] (by kernel_rfl) ⟨hg16,rfl,trivial⟩ ?_
          obtain rfl:=Option.some.inj h16
          exact jQ.mk [.ar [0,1,2,3,4,10,11,12,13,75] [0,1]] (by kernel_rfl) rfl
        ·rintro _ rfl
         rcases aj h14 with⟨hc21,h14⟩|⟨hc21,h14⟩
         ·refine ab.aI (b:=o15) (by kernel_rfl) hc21 ?_
          obtain⟨y18,hy19,h14⟩:=bind_some h14
          refine ab.ak tied [⟨(.val .bool y18.1),[(0,0),(1,1)],[],[(0,(.row 3 8 (.int .i64) y18.2.1)),(1,(.row 23 32 aC y18.2.2))],181⟩] [] [] [Fc Tryz.prog gl 73 [(.own 0),(.val (.int .i64) u1_0),(.val (.int .i64) u1_1),(.func (.func 21) (.cons (.own 1) .nil) .nil)] (aq (List.replicate 181 none) [(0,some (.row 3 8 (.int .i64) o10.2.2.1)),(1,some (.row 23 32 aC o10.2.2.2))]) (.ret (.val .bool y18.1)) (aN 181 [(0,(.row 3 8 (.int .i64) y18.2.1)),(1,(.row 23 32 aC y18.2.2))])] (by kernel_rfl) ⟨EN _ _ _ _ _ hy19,trivial⟩ ?_
          rcases aj h14 with⟨hc20,h14⟩|⟨hc20,h14⟩
          ·refine ab.aI (b:=y18.1) (by kernel_rfl) hc20 ?_
           refine ab.ret ?_
           obtain rfl:=Option.some.inj h14
           dsimp only at h11
           obtain rfl:=Option.some.inj h11
           dsimp only at h
           obtain rfl:=Option.some.inj h
           exact(aG [.ar [] [0,1]] [] (fo 188 [0,1]) (by kernel_rfl)).1
          ·refine ab.aH (b:=y18.1) (by kernel_rfl) hc20 ?_
           refine ab.skip ?_
           obtain rfl:=Option.some.inj h14
           exact jQ.mk [.ar [0,1,2,3,4,10,11,12,13] [0,1]] (by kernel_rfl) ⟨_,rfl,rfl⟩
         ·refine ab.aH (b:=o15) (by kernel_rfl) hc21 ?_
          refine ab.skip ?_
          obtain rfl:=Option.some.inj h14
          exact jQ.mk [.ar [0,1,2,3,4,10,11,12,13] [0,1]] (by kernel_rfl) ⟨_,rfl,rfl⟩
       ·rintro _ ⟨v22,rfl,rfl⟩
        dsimp only at h11
        obtain⟨o23,h17,h11⟩:=bind_some h11
        refine ab.tj (fun σ'=>∃v33,o23= .brk v33∧σ'=az 148 188 [(0,(.own 0)),(1,(.val (.int .i64) u1_0)),(2,(.val (.int .i64) u1_1)),(3,(.val (.int .i64) o4.1)),(4,(.func (.func 21) (.cons (.own 1) .nil) .nil)),(12,(.val (.int .i64) (ao (u1_1 -u1_0)))),(13,(.val (.int .i64) o10.1))] [(0,some (.row 3 8 (.int .i64) v22.1)),(1,some (.row 23 32 aC v22.2))]) (fun i σ'=>(i=1∧∃v41,o23= .ret v41∧σ'=az 148 188 [(0,(.own 0)),(1,(.val (.int .i64) v41.1)),(2,(.val (.int .i64) u1_1)),(3,(.val (.int .i64) o4.1)),(4,(.func (.func 21) (.cons (.own 1) .nil) .nil)),(10,(.val .bool u1_3)),(11,(.val .bool u1_4))] [(0,some (.row 3 8 (.int .i64) v41.2.1)),(1,some (.row 23 32 aC v41.2.2))])) (Cl.bp (Cl.loop (Cl.bp (Cl.j Cl.f)))) ?_ ?_ ?_
        ·obtain⟨o24,h19,h17⟩:=bind_some h17
         refine ab.bV (fun σ'=>σ'=az 148 188 [(0,(.own 0)),(1,(.val (.int .i64) u1_0)),(2,(.val (.int .i64) u1_1)),(3,(.val (.int .i64) o4.1)),(4,(.func (.func 21) (.cons (.own 1) .nil) .nil)),(10,(.val .bool u1_3)),(11,(.val .bool u1_4)),(12,(.val (.int .i64) (ao (u1_1 -u1_0)))),(13,(.val (.int .i64) o10.1)),(97,(.val .bool o24))] [(0,some (.row 3 8 (.int .i64) v22.1)),(1,some (.row 23 32 aC v22.2))]) ?_ ?_
         ·rcases aj h19 with⟨hg25,h19⟩|⟨hg25,h19⟩
          ·obtain⟨hv26,h19⟩:=ai h19
           obtain⟨hv27,h19⟩:=ai h19
           obtain⟨y28,hy29,h19⟩:=bind_some h19
           refine ab.fT tied [⟨(.val (.int .i64) y28),[],[],[],68⟩] [true] [] [(decide ((0:Int)<u1_0))=true,0≤(ao (u1_0 -(1:Int))),(ao (u1_0 -(1:Int)))<(List.length v22.1:Int),0≤o10.1,o10.1<(List.length v22.1:Int),Fc Tryz.prog gl 21 [(.val (.slice 32 aC) v22.2),(.val (.int .i64) (nth (.int .i64) v22.1 (ao (u1_0 -(1:Int))))),(.val (.int .i64) (nth (.int .i64) v22.1 o10.1))] (aq (List.replicate 68 none) []) (.ret (.val (.int .i64) y28)) (aN 68 [])] (by kernel_rfl) ⟨hg25,hv26.1,hv26.2,hv27.1,hv27.2,zC _ _ _ _ hy29,trivial⟩ ?_
           obtain rfl:=Option.some.inj h19
           exact jQ.mk [.ar [0,1,2,3,4,10,11,12,13,97] [0,1]] (by kernel_rfl) rfl
          ·refine ab.fT tied [] [false] [] [(decide ((0:Int)<u1_0))=false] (by kernel_rfl) ⟨hg25,trivial⟩ ?_
           obtain rfl:=Option.some.inj h19
           exact jQ.mk [.ar [0,1,2,3,4,10,11,12,13,97] [0,1]] (by kernel_rfl) rfl
         ·rintro _ rfl
          rcases aj h17 with⟨hc32,h17⟩|⟨hc32,h17⟩
          ·refine ab.aI (b:=o24) (by kernel_rfl) hc32 ?_
           obtain⟨y30,hy31,h17⟩:=bind_some h17
           refine ab.ak tied [⟨(.val (.int .i64) y30.1),[(0,0),(1,1)],[],[(0,(.row 3 8 (.int .i64) y30.2.1)),(1,(.row 23 32 aC y30.2.2))],130⟩] [] [] [Fc Tryz.prog gl 74 [(.own 0),(.val (.int .i64) u1_0),(.val (.int .i64) u1_1),(.val (.int .i64) o10.1),(.func (.func 21) (.cons (.own 1) .nil) .nil)] (aq (List.replicate 130 none) [(0,some (.row 3 8 (.int .i64) v22.1)),(1,some (.row 23 32 aC v22.2))]) (.ret (.val (.int .i64) y30.1)) (aN 130 [(0,(.row 3 8 (.int .i64) y30.2.1)),(1,(.row 23 32 aC y30.2.2))])] (by kernel_rfl) ⟨EO _ _ _ _ _ _ hy31,trivial⟩ ?_
           refine ab.ak tied [] [] [] [] (by kernel_rfl) trivial ?_
           refine ab.exit ?_
           obtain rfl:=Option.some.inj h17
           exact l4.ex [.ar [0,1,2,3,4,10,11] [0,1]] (by kernel_rfl) ⟨rfl,_,rfl,rfl⟩
          ·refine ab.aH (b:=o24) (by kernel_rfl) hc32 ?_
           refine ab.skip ?_
           obtain rfl:=Option.some.inj h17
           exact l4.mk [.ar [0,1,2,3,4,12,13] [0,1]] (by kernel_rfl) ⟨_,rfl,rfl⟩
        ·rintro _ _ ⟨rfl,v41,rfl,rfl⟩
         ·dsimp only at h11
          refine bE ?_
          exact aM.mk [.ar [0,1,2,3,4,10,11] [0,1]] (by kernel_rfl) ⟨_,_,_,_,_,_,_,h11,rfl⟩
        ·rintro _ ⟨v33,rfl,rfl⟩
         dsimp only at h11
         obtain⟨y34,hy35,h11⟩:=bind_some h11
         refine ab.ak tied [⟨(.bJ (.cons (.val (.int .i64) y34.1) (.cons (.val .bool y34.2.1) .nil))),[(0,0),(1,1)],[],[(0,(.row 3 8 (.int .i64) y34.2.2.1)),(1,(.row 23 32 aC y34.2.2.2))],218⟩] [] [] [Fc Tryz.prog gl 75 [(.own 0),(.val (.int .i64) u1_0),(.val (.int .i64) u1_1),(.val (.int .i64) o10.1),(.func (.func 21) (.cons (.own 1) .nil) .nil)] (aq (List.replicate 218 none) [(0,some (.row 3 8 (.int .i64) v22.1)),(1,some (.row 23 32 aC v22.2))]) (.ret (.bJ (.cons (.val (.int .i64) y34.1) (.cons (.val .bool y34.2.1) .nil)))) (aN 218 [(0,(.row 3 8 (.int .i64) y34.2.2.1)),(1,(.row 23 32 aC y34.2.2.2))])] (by kernel_rfl) ⟨FL _ _ _ _ _ _ hy35,trivial⟩ ?_
         refine ab.ak tied [] [] [] [] (by kernel_rfl) trivial ?_
         refine ab.ak tied [] [] [] [] (by kernel_rfl) trivial ?_
         refine ab.ak tied [] [] [] [(8:Int)≠0] (by kernel_rfl) ⟨(by decide),trivial⟩ ?_
         refine ab.ak tied [] [] [] [] (by kernel_rfl) trivial ?_
         rcases aj h11 with⟨hc40,h11⟩|⟨hc40,h11⟩
         ·refine ab.aI (b:=decide ((ao (y34.1 -u1_0))<(ao (u1_1 -y34.1)))) (by kernel_rfl) hc40 ?_
          refine ab.ak tied [] [] [] [] (by kernel_rfl) trivial ?_
          obtain⟨y36,hy37,h11⟩:=bind_some h11
          refine ab.ak tied [⟨(.bJ .nil),[(0,0),(1,1)],[],[(0,(.row 3 8 (.int .i64) y36.1)),(1,(.row 23 32 aC y36.2))],188⟩] [] [] [Fc Tryz.prog gl 43 [(.own 0),(.val (.int .i64) u1_0),(.val (.int .i64) y34.1),(.val (.int .i64) o4.1),(.func (.func 21) (.cons (.own 1) .nil) .nil)] (aq (List.replicate 188 none) [(0,some (.row 3 8 (.int .i64) y34.2.2.1)),(1,some (.row 23 32 aC y34.2.2.2))]) (.ret (.bJ .nil)) (aN 188 [(0,(.row 3 8 (.int .i64) y36.1)),(1,(.row 23 32 aC y36.2))])] (by kernel_rfl) ⟨B2 _ _ _ _ _ _ hy37,trivial⟩ ?_
          refine ab.eI tied [] [] [] [] (by kernel_rfl) trivial ?_
          refine bN ?_
          exact aM.mk [.ar [0,1,2,3,4,10,11] [0,1]] (by kernel_rfl) ⟨_,_,_,_,_,_,_,h11,rfl⟩
         ·refine ab.aH (b:=decide ((ao (y34.1 -u1_0))<(ao (u1_1 -y34.1)))) (by kernel_rfl) hc40 ?_
          refine ab.ak tied [] [] [] [] (by kernel_rfl) trivial ?_
          obtain⟨y38,hy39,h11⟩:=bind_some h11
          refine ab.ak tied [⟨(.bJ .nil),[(0,0),(1,1)],[],[(0,(.row 3 8 (.int .i64) y38.1)),(1,(.row 23 32 aC y38.2))],188⟩] [] [] [Fc Tryz.prog gl 43 [(.own 0),(.val (.int .i64) (ao (y34.1+(1:Int)))),(.val (.int .i64) u1_1),(.val (.int .i64) o4.1),(.func (.func 21) (.cons (.own 1) .nil) .nil)] (aq (List.replicate 188 none) [(0,some (.row 3 8 (.int .i64) y34.2.2.1)),(1,some (.row 23 32 aC y34.2.2.2))]) (.ret (.bJ .nil)) (aN 188 [(0,(.row 3 8 (.int .i64) y38.1)),(1,(.row 23 32 aC y38.2))])] (by kernel_rfl) ⟨B2 _ _ _ _ _ _ hy39,trivial⟩ ?_
          refine ab.eI tied [] [] [] [] (by kernel_rfl) trivial ?_
          refine bN ?_
          exact aM.mk [.ar [0,1,2,3,4,10,11] [0,1]] (by kernel_rfl) ⟨_,_,_,_,_,_,_,h11,rfl⟩
 ·rintro _ ⟨Is,rfl,rfl⟩
  dsimp only at h
  cases h
def nE(a0:List Int)(a1:List bz):Option ((List Int)×(List bz)):=
 Option.bind (f44 (IntKind.u64.wrap ((List.length a0:Int)))) fun y1=>Option.bind (tM (0:Int) (List.length a0:Int) y1 a0 a1) fun y3=>some (y3.1,y3.2)
set_option maxRecDepth 100000 in
theorem FN(a0:List Int)(a1:List bz)(r:(List Int)×(List bz))(h:nE a0 a1=some r):Fc Tryz.prog gl 20 [(.own 0),(.func (.func 21) (.cons (.own 1) .nil) .nil)] (aq (List.replicate 54 none) [(0,some (.row 3 8 (.int .i64) a0)),(1,some (.row 23 32 aC a1))]) (.ret (.bJ .nil)) (aN 54 [(0,(.row 3 8 (.int .i64) r.1)),(1,(.row 23 32 aC r.2))]):=by
 refine Fc.of Tryz.call20 (dq.aU tied Tryz.func20 rfl rfl (σ0:=az 14 54 [(0,(.own 0)),(1,(.func (.func 21) (.cons (.own 1) .nil) .nil))] [(0,some (.row 3 8 (.int .i64) a0)),(1,some (.row 23 32 aC a1))]) (by kernel_rfl) ?_)
 unfold nE at h
 refine ab.ak tied [] [] [] [] (by kernel_rfl) trivial ?_
 obtain⟨y1,hy2,h⟩:=bind_some h
 obtain⟨y3,hy4,h⟩:=bind_some h
 refine ab.eI tied [⟨(.val (.int .i64) y1),[],[],[],48⟩,⟨(.bJ .nil),[(0,0),(1,1)],[],[(0,(.row 3 8 (.int .i64) y3.1)),(1,(.row 23 32 aC y3.2))],188⟩] [] [] [Fc Tryz.prog gl 44 [(.val (.int .u64) (IntKind.u64.wrap ((List.length a0:Int))))] (aq (List.replicate 48 none) []) (.ret (.val (.int .i64) y1)) (aN 48 []),Fc Tryz.prog gl 43 [(.own 0),(.val (.int .i64) (0:Int)),(.val (.int .i64) (List.length a0:Int)),(.val (.int .i64) y1),(.func (.func 21) (.cons (.own 1) .nil) .nil)] (aq (List.replicate 188 none) [(0,some (.row 3 8 (.int .i64) a0)),(1,some (.row 23 32 aC a1))]) (.ret (.bJ .nil)) (aN 188 [(0,(.row 3 8 (.int .i64) y3.1)),(1,(.row 23 32 aC y3.2))])] (by kernel_rfl) ⟨JF _ _ hy2,FM _ _ _ _ _ _ hy4,trivial⟩ ?_
 obtain rfl:=Option.some.inj h
 exact(aG [.ar [] [0,1]] [] (fo 54 [0,1]) (by kernel_rfl)).2
end Go.Proofs.YtmpdeifdnbhdiaaGreatDoor
