/- Made by program (dec.py): walks -/
import Derived.Test.YtmpdeifdnbhdiaaGreatDoorF3
namespace Go.Proofs.YtmpdeifdnbhdiaaGreatDoor
open Go.Abs
def lH(a0:bz)(a1:Int):Nat→Int→(List Int)→(List bz)→Option ((List Int)×(List bz))
 |0,_,_,_=>none
 |n1+1,u1_0,u1_1,u1_2=>if(decide (u1_0<a1))=true then(if(List.length ([]:List Int)+List.length (List.take (32 -0) (List.drop 0 a0)))*1≤aO then(if(List.length (List.take (32 -0) (List.drop 0 a0))+List.length [IntKind.u8.wrap (Int.fdiv u1_0 (2^(min (Int.toNat (24:Int)) 64))),IntKind.u8.wrap (Int.fdiv u1_0 (2^(min (Int.toNat (16:Int)) 64))),IntKind.u8.wrap (Int.fdiv u1_0 (2^(min (Int.toNat (8:Int)) 64))),IntKind.u8.wrap (u1_0)])*1≤aO then(Option.bind (f19 [112,108,97,99,101] ((List.take (32 -0) (List.drop 0 a0))++[IntKind.u8.wrap (Int.fdiv u1_0 (2^(min (Int.toNat (24:Int)) 64))),IntKind.u8.wrap (Int.fdiv u1_0 (2^(min (Int.toNat (16:Int)) 64))),IntKind.u8.wrap (Int.fdiv u1_0 (2^(min (Int.toNat (8:Int)) 64))),IntKind.u8.wrap (u1_0)])) fun y9=>if(List.length u1_2+List.length [y9])*32≤aO then(if(List.length u1_1+List.length [u1_0])*8≤aO then(lH a0 a1 n1 (ao (u1_0+(1:Int))) (u1_1++[u1_0]) (u1_2++[y9])) else none) else none) else none) else none) else(some (u1_1,u1_2))
def f6(a0:bz)(a1:Int):Option ((List Int)×Int):=
 Option.bind (Option.bind (if(decide (a1<(1:Int)))=true then(some true) else(some (decide ((16:Int)<a1)))) fun(o2:Bool)=>if o2=true then(some (.ret (([]:List Int),(200:Int)))) else(some (.brk ()))) fun(o1:lz Unit ((List Int)×Int))=>match o1 with| .brk _v5=>(Option.bind (lH a0 a1 (Int.toNat a1+1) (0:Int) ([]:List Int) ([]:List bz)) fun(o6:(List Int)×(List bz))=>Option.bind (nE o6.1 o6.2) fun y14=>some (y14.1,(0:Int)))| .ret r16=>(some r16)
set_option maxRecDepth 100000 in
theorem x6(a0:bz)(a1:Int)(r:(List Int)×Int)(h:f6 a0 a1=some r):Fc Tryz.prog gl 6 [(.val aC a0),(.val (.int .i64) a1)] (aq (List.replicate 90 none) []) (.ret (.bJ (.cons (.val (.slice 8 (.int .i64)) r.1) (.cons (.val (.int .i64) r.2) .nil)))) (aN 90 []):=by
 refine Fc.of Tryz.call6 (dq.aU tied Tryz.func6 rfl rfl (σ0:=az 50 90 [(0,(.val aC a0)),(1,(.val (.int .i64) a1))] []) (by kernel_rfl) ?_)
 unfold f6 at h
 refine ab.ak tied [] [] [] [] (by kernel_rfl) trivial ?_
 obtain⟨o1,h1,h⟩:=bind_some h
 refine ab.bV (fun σ'=>∃v5,o1= .brk v5∧σ'=az 50 90 [(1,(.val (.int .i64) a1)),(2,(.ptr 18 [])),(4,.dR)] [(18,some (.var aC (.val aC a0)))]) ?_ ?_
 ·obtain⟨o2,h3,h1⟩:=bind_some h1
  refine ab.bV (fun σ'=>σ'=az 50 90 [(1,(.val (.int .i64) a1)),(2,(.ptr 18 [])),(4,.dR),(14,(.val .bool o2))] [(18,some (.var aC (.val aC a0)))]) ?_ ?_
  ·rcases aj h3 with⟨hg3,h3⟩|⟨hg3,h3⟩
   ·refine ab.eI tied [] [true] [] [(decide (a1<(1:Int)))=true] (by kernel_rfl) ⟨hg3,trivial⟩ ?_
    obtain rfl:=Option.some.inj h3
    exact jQ.mk [.ar [1,2,4,14] [18]] (by kernel_rfl) rfl
   ·refine ab.eI tied [] [false] [] [(decide (a1<(1:Int)))=false] (by kernel_rfl) ⟨hg3,trivial⟩ ?_
    obtain rfl:=Option.some.inj h3
    exact jQ.mk [.ar [1,2,4,14] [18]] (by kernel_rfl) rfl
  ·rintro _ rfl
   rcases aj h1 with⟨hc4,h1⟩|⟨hc4,h1⟩
   ·refine ab.aI (b:=o2) (by kernel_rfl) hc4 ?_
    refine ab.ak tied [] [] [] [] (by kernel_rfl) trivial ?_
    refine ab.ret ?_
    obtain rfl:=Option.some.inj h1
    dsimp only at h
    obtain rfl:=Option.some.inj h
    exact(aG [] [some (.slice 8 (.int .i64)),some (.int .i64)] (fo 90 []) (by kernel_rfl)).1
   ·refine ab.aH (b:=o2) (by kernel_rfl) hc4 ?_
    refine ab.skip ?_
    obtain rfl:=Option.some.inj h1
    exact jQ.mk [.ar [1,2,4] [18]] (by kernel_rfl) ⟨_,rfl,rfl⟩
 ·rintro _ ⟨v5,rfl,rfl⟩
  dsimp only at h
  refine ab.ak tied [] [] [] [] (by kernel_rfl) trivial ?_
  obtain⟨o6,h4,h⟩:=bind_some h
  refine ab.bV (fun σ'=>σ'=az 50 90 [(4,(.own 68)),(6,(.own 69))] [(68,some (.row 3 8 (.int .i64) o6.1)),(69,some (.row 23 32 aC o6.2))]) ?_ ?_
  ·refine ab.ak tied [] [] [] [] (by kernel_rfl) trivial ?_
   refine ab.block ?_
   refine ab.aM (fun n σ=>∃(u1_0:Int)(u1_1:List Int)(u1_2:List bz),lH a0 a1 n u1_0 u1_1 u1_2=some o6∧σ=az 50 90 [(2,(.ptr 18 [])),(4,(.own 66)),(6,(.own 67)),(15,(.val (.int .i64) a1)),(16,(.val (.int .i64) u1_0))] [(18,some (.var aC (.val aC a0))),(66,some (.row 3 8 (.int .i64) u1_1)),(67,some (.row 23 32 aC u1_2))]) [.ar [2,4,6,15,16] [18],.qc 4 66 3 8 (.int .i64),.qc 6 67 23 32 aC] (by kernel_rfl) ⟨_,_,_,h4,rfl⟩ ?_
   rintro n1 _ ⟨u1_0,u1_1,u1_2,h6,rfl⟩
   cases n1 with
   |zero=>exact absurd h6 (by simp[lH])
   |
    succ n1=>
    unfold lH at h6
    refine ab.ak tied [] [] [] [] (by kernel_rfl) trivial ?_
    refine ab.seq ?_
    rcases aj h6 with⟨hc13,h6⟩|⟨hc13,h6⟩
    ·refine ab.aI (b:=decide (u1_0<a1)) (by kernel_rfl) hc13 ?_
     refine ab.skip ?_
     change ab _ _ _ _ _
     refine ab.seq ?_
     refine ab.block ?_
     refine ab.ak tied [] [] [] [] (by kernel_rfl) trivial ?_
     obtain⟨hv7,h6⟩:=ai h6
     obtain⟨hv8,h6⟩:=ai h6
     refine ab.ak tied [] [] [] [(List.length ([]:List Int)+List.length (List.take (32 -0) (List.drop 0 a0)))*1≤aO,0≤(24:Int),0≤(16:Int),0≤(8:Int),(List.length (List.take (32 -0) (List.drop 0 a0))+List.length [IntKind.u8.wrap (Int.fdiv u1_0 (2^(min (Int.toNat (24:Int)) 64))),IntKind.u8.wrap (Int.fdiv u1_0 (2^(min (Int.toNat (16:Int)) 64))),IntKind.u8.wrap (Int.fdiv u1_0 (2^(min (Int.toNat (8:Int)) 64))),IntKind.u8.wrap (u1_0)])*1≤aO] (by kernel_rfl) ⟨hv7,(by decide),(by decide),(by decide),hv8,trivial⟩ ?_
     obtain⟨y9,hy10,h6⟩:=bind_some h6
     obtain⟨hv11,h6⟩:=ai h6
     refine ab.ak tied [⟨(.val aC y9),[],[],[],54⟩] [] [] [Fc Tryz.prog gl 19 [(.val .str [112,108,97,99,101]),(.val (.slice 1 (.int .u8)) ((List.take (32 -0) (List.drop 0 a0))++[IntKind.u8.wrap (Int.fdiv u1_0 (2^(min (Int.toNat (24:Int)) 64))),IntKind.u8.wrap (Int.fdiv u1_0 (2^(min (Int.toNat (16:Int)) 64))),IntKind.u8.wrap (Int.fdiv u1_0 (2^(min (Int.toNat (8:Int)) 64))),IntKind.u8.wrap (u1_0)]))] (aq (List.replicate 54 none) []) (.ret (.val aC y9)) (aN 54 []),(List.length u1_2+List.length [y9])*32≤aO] (by kernel_rfl) ⟨Kk _ _ _ hy10,hv11,trivial⟩ ?_
     obtain⟨hv12,h6⟩:=ai h6
     refine ab.eI tied [] [] [] [(List.length u1_1+List.length [u1_0])*8≤aO] (by kernel_rfl) ⟨hv12,trivial⟩ ?_
     refine bN ?_
     change ab _ _ _ _ _
     refine ab.eI tied [] [] [] [] (by kernel_rfl) trivial ?_
     exact aM.mk [.ar [2,4,6,15,16] [18,55,59],.D7 59 66,.D7 55 67] (by kernel_rfl) ⟨_,_,_,h6,rfl⟩
    ·refine ab.aH (b:=decide (u1_0<a1)) (by kernel_rfl) hc13 ?_
     refine ab.exit ?_
     refine tE ?_
     refine lE ?_
     refine bE ?_
     obtain rfl:=Option.some.inj h6
     exact jQ.mk [.ar [4,6] [66,67],.D7 66 68,.D7 67 69] (by kernel_rfl) rfl
  ·rintro _ rfl
   obtain⟨y14,hy15,h⟩:=bind_some h
   refine ab.ak tied [⟨(.bJ .nil),[(0,68),(1,69)],[],[(0,(.row 3 8 (.int .i64) y14.1)),(1,(.row 23 32 aC y14.2))],54⟩] [] [] [Fc Tryz.prog gl 20 [(.own 0),(.func (.func 21) (.cons (.own 1) .nil) .nil)] (aq (List.replicate 54 none) [(0,some (.row 3 8 (.int .i64) o6.1)),(1,some (.row 23 32 aC o6.2))]) (.ret (.bJ .nil)) (aN 54 [(0,(.row 3 8 (.int .i64) y14.1)),(1,(.row 23 32 aC y14.2))])] (by kernel_rfl) ⟨FN _ _ _ hy15,trivial⟩ ?_
   refine ab.ak tied [] [] [] [] (by kernel_rfl) trivial ?_
   refine ab.ret ?_
   obtain rfl:=Option.some.inj h
   exact(aG [.freeze 68 (.slice 8 (.int .i64))] [some (.slice 8 (.int .i64)),some (.int .i64)] (fo 90 []) (by kernel_rfl)).1
def lJ(a1:Int)(y3:(List Int)×Int):Nat→Int→(List (Int×Bool))→Option (lz Unit Bool)
 |0,_,_=>none
 |n1+1,u1_0,u1_1=>if(decide (u1_0<(List.length y3.1:Int)))=true then(Option.bind (if 0≤u1_0∧u1_0<(List.length y3.1:Int) then(Option.bind (Option.bind (if(decide ((nth (.int .i64) y3.1 u1_0)<(0:Int)))=true then(some true) else(if(decide (a1≤(nth (.int .i64) y3.1 u1_0)))=true then(some true) else(some (fR (.int .i64) .bool (nth (.int .i64) y3.1 u1_0) u1_1)))) fun(o12:Bool)=>if o12=true then(some (.ret false)) else(some (.brk ()))) fun(o11:lz Unit Bool)=>match o11 with| .brk _v16=>(if List.length u1_1+1≤aO then(some (.brk ())) else none)| .ret r18=>(some (.ret r18))) else none) fun(o9:lz Unit Bool)=>match o9 with| .brk _v19=>(lJ a1 y3 n1 (ao (u1_0+(1:Int))) (eU (.int .i64) (nth (.int .i64) y3.1 u1_0) true u1_1))| .ret r20=>(some (.ret r20))) else(some (.brk ()))
def f4(a0:bz)(a1:Int):Option Bool:=
 Option.bind (f5) fun y1=>if(!y1)=true then(some false) else(Option.bind (f6 a0 a1) fun y3=>if(!decide (y3.2=(0:Int)))=true then(Option.bind (if(decide ((List.length y3.1:Int)=(0:Int)))=true then(if(decide (a1<(1:Int)))=true then(some true) else(some (decide ((16:Int)<a1)))) else(some false)) fun(o5:Bool)=>some o5) else(Option.bind (lJ a1 y3 (List.length y3.1+1) (0:Int) ([]:List (Int×Bool))) fun(o8:lz Unit Bool)=>match o8 with| .brk _v22=>(some (decide ((List.length y3.1:Int)=a1)))| .ret r23=>(some r23)))
set_option maxRecDepth 100000 in
theorem x4(
 a0:bz) (a1:Int) (r:Bool) (h:f4 a0 a1=some r):Fc Tryz.prog gl 4 [(.val aC a0),(.val (.int .i64) a1)] (aq (List.replicate 97 none) []) (.ret (.val .bool r)) (aN 97 []):=by
 refine Fc.of Tryz.call4 (dq.aU tied Tryz.func4 rfl rfl (σ0:=az 57 97 [(0,(.val aC a0)),(1,(.val (.int .i64) a1))] []) (by kernel_rfl) ?_)
 unfold f4 at h
 refine ab.ak tied [] [] [] [] (by kernel_rfl) trivial ?_
 refine ab.seq ?_
 obtain⟨y1,hy2,h⟩:=bind_some h
 refine ab.ak tied [⟨(.val .bool y1),[],[],[],229⟩] [] [] [Fc Tryz.prog gl 5 [] (aq (List.replicate 229 none) []) (.ret (.val .bool y1)) (aN 229 [])] (by kernel_rfl) ⟨x5 _ hy2,trivial⟩ ?_
 rcases aj h with⟨hc25,h⟩|⟨hc25,h⟩
 ·refine ab.aI (b:= !y1) (by kernel_rfl) hc25 ?_
  refine ab.ak tied [] [] [] [] (by kernel_rfl) trivial ?_
  refine ab.ret ?_
  obtain rfl:=Option.some.inj h
  exact(aG [] [some .bool] (fo 97 []) (by kernel_rfl)).1
 ·refine ab.aH (
   b:= !y1) (by kernel_rfl) hc25 ?_
  refine ab.skip ?_
  change ab _ _ _ _ _
  obtain⟨y3,hy4,h⟩:=bind_some h
  refine ab.ak tied [⟨(.bJ (.cons (.val (.slice 8 (.int .i64)) y3.1) (.cons (.val (.int .i64) y3.2) .nil))),[],[],[],90⟩] [] [] [Fc Tryz.prog gl 6 [(.val aC a0),(.val (.int .i64) a1)] (aq (List.replicate 90 none) []) (.ret (.bJ (.cons (.val (.slice 8 (.int .i64)) y3.1) (.cons (.val (.int .i64) y3.2) .nil)))) (aN 90 [])] (by kernel_rfl) ⟨x6 _ _ _ hy4,trivial⟩ ?_
  refine ab.seq ?_
  refine ab.ak tied [] [] [] [] (by kernel_rfl) trivial ?_
  rcases aj h with⟨hc24,h⟩|⟨hc24,h⟩
  ·refine ab.aI (b:= !decide (y3.2=(0:Int))) (by kernel_rfl) hc24 ?_
   obtain⟨o5,h1,h⟩:=bind_some h
   refine ab.bV (fun σ'=>σ'=az 57 97 [(4,(.val .bool o5))] []) ?_ ?_
   ·rcases aj h1 with⟨hg6,h1⟩|⟨hg6,h1⟩
    ·rcases aj h1 with⟨hg7,h1⟩|⟨hg7,h1⟩
     ·refine ab.eI tied [] [true,true] [] [(decide ((List.length y3.1:Int)=(0:Int)))=true,(decide (a1<(1:Int)))=true] (by kernel_rfl) ⟨hg6,hg7,trivial⟩ ?_
      obtain rfl:=Option.some.inj h1
      exact jQ.mk [.ar [4] []] (by kernel_rfl) rfl
     ·refine ab.eI tied [] [true,false] [] [(decide ((List.length y3.1:Int)=(0:Int)))=true,(decide (a1<(1:Int)))=false] (by kernel_rfl) ⟨hg6,hg7,trivial⟩ ?_
      obtain rfl:=Option.some.inj h1
      exact jQ.mk [.ar [4] []] (by kernel_rfl) rfl
    ·refine ab.eI tied [] [false,false] [] [(decide ((List.length y3.1:Int)=(0:Int)))=false] (by kernel_rfl) ⟨hg6,trivial⟩ ?_
     obtain rfl:=Option.some.inj h1
     exact jQ.mk [.ar [4] []] (by kernel_rfl) rfl
   ·rintro _ rfl
    refine ab.ret ?_
    obtain rfl:=Option.some.inj h
    exact(aG [] [some .bool] (fo 97 []) (by kernel_rfl)).1
  ·refine ab.aH (b:= !decide (y3.2=(0:Int))) (by kernel_rfl) hc24 ?_
   refine ab.skip ?_
   change ab _ _ _ _ _
   refine ab.ak tied [] [] [] [] (by kernel_rfl) trivial ?_
   obtain⟨o8,h2,h⟩:=bind_some h
   refine ab.bV (fun σ'=>∃v22,o8= .brk v22∧σ'=az 57 97 [(1,(.val (.int .i64) a1)),(5,(.val (.slice 8 (.int .i64)) y3.1))] []) ?_ ?_
   ·refine ab.ak tied [] [] [] [] (by kernel_rfl) trivial ?_
    refine ab.block ?_
    refine ab.aM (fun n σ=>∃(u1_0:Int)(u1_1:List (Int×Bool)),lJ a1 y3 n u1_0 u1_1=some o8∧σ=az 57 97 [(1,(.val (.int .i64) a1)),(5,(.val (.slice 8 (.int .i64)) y3.1)),(7,(.mp 47)),(32,(.val (.slice 8 (.int .i64)) y3.1)),(33,(.val (.int .i64) (List.length y3.1:Int))),(34,(.val (.int .i64) u1_0))] [(47,some (.map (.int .i64) .bool u1_1))]) [.ar [1,5,7,32,33,34] [47]] (by kernel_rfl) ⟨_,_,h2,rfl⟩ ?_
    rintro n1 _ ⟨u1_0,u1_1,h11,rfl⟩
    cases n1 with
    |zero=>exact absurd h11 (by simp[lJ])
    |
     succ n1=>
     unfold lJ at h11
     refine ab.ak tied [] [] [] [] (by kernel_rfl) trivial ?_
     refine ab.seq ?_
     rcases aj h11 with⟨hc21,h11⟩|⟨hc21,h11⟩
     ·refine ab.aI (b:=decide (u1_0<(List.length y3.1:Int))) (by kernel_rfl) hc21 ?_
      refine ab.skip ?_
      change ab _ _ _ _ _
      obtain⟨o9,h12,h11⟩:=bind_some h11
      refine ab.bV (fun σ'=>∃Ih,o9= .brk Ih∧σ'=az 57 97 [(1,(.val (.int .i64) a1)),(5,(.val (.slice 8 (.int .i64)) y3.1)),(7,(.mp 47)),(32,(.val (.slice 8 (.int .i64)) y3.1)),(33,(.val (.int .i64) (List.length y3.1:Int))),(34,(.val (.int .i64) u1_0))] [(47,some (.map (.int .i64) .bool (eU (.int .i64) (nth (.int .i64) y3.1 u1_0) true u1_1)))]) ?_ ?_
      ·refine ab.block ?_
       obtain⟨hv10,h12⟩:=ai h12
       refine ab.ak tied [] [] [] [0≤u1_0,u1_0<(List.length y3.1:Int)] (by kernel_rfl) ⟨hv10.1,hv10.2,trivial⟩ ?_
       obtain⟨o11,h16,h12⟩:=bind_some h12
       refine ab.bV (fun σ'=>∃v16,o11= .brk v16∧σ'=az 57 97 [(1,(.val (.int .i64) a1)),(5,(.val (.slice 8 (.int .i64)) y3.1)),(7,(.mp 47)),(9,(.val (.int .i64) (nth (.int .i64) y3.1 u1_0))),(32,(.val (.slice 8 (.int .i64)) y3.1)),(33,(.val (.int .i64) (List.length y3.1:Int))),(34,(.val (.int .i64) u1_0))] [(47,some (.map (.int .i64) .bool u1_1))]) ?_ ?_
       ·obtain⟨o12,h18,h16⟩:=bind_some h16
        refine ab.bV (fun σ'=>σ'=az 57 97 [(1,(.val (.int .i64) a1)),(5,(.val (.slice 8 (.int .i64)) y3.1)),(7,(.mp 47)),(9,(.val (.int .i64) (nth (.int .i64) y3.1 u1_0))),(32,(.val (.slice 8 (.int .i64)) y3.1)),(33,(.val (.int .i64) (List.length y3.1:Int))),(34,(.val (.int .i64) u1_0)),(49,(.val .bool o12))] [(47,some (.map (.int .i64) .bool u1_1))]) ?_ ?_
        ·rcases aj h18 with⟨hg13,h18⟩|⟨hg13,h18⟩
         ·refine ab.eI tied [] [true,true] [] [(decide ((nth (.int .i64) y3.1 u1_0)<(0:Int)))=true,true=true] (by kernel_rfl) ⟨hg13,rfl,trivial⟩ ?_
          obtain rfl:=Option.some.inj h18
          exact jQ.mk [.ar [1,5,7,9,32,33,34,49] [47]] (by kernel_rfl) rfl
         ·rcases aj h18 with⟨hg14,h18⟩|⟨hg14,h18⟩
          ·refine ab.eI tied [] [false,true] [] [(decide ((nth (.int .i64) y3.1 u1_0)<(0:Int)))=false,(decide (a1≤(nth (.int .i64) y3.1 u1_0)))=true] (by kernel_rfl) ⟨hg13,hg14,trivial⟩ ?_
           obtain rfl:=Option.some.inj h18
           exact jQ.mk [.ar [1,5,7,9,32,33,34,49] [47]] (by kernel_rfl) rfl
          ·refine ab.eI tied [] [false,false] [] [(decide ((nth (.int .i64) y3.1 u1_0)<(0:Int)))=false,(decide (a1≤(nth (.int .i64) y3.1 u1_0)))=false,gr Tryz.prog G 40 3 (.int .i64)=true] (by kernel_rfl) ⟨hg13,hg14,ui,trivial⟩ ?_
           obtain rfl:=Option.some.inj h18
           exact jQ.mk [.ar [1,5,7,9,32,33,34,49] [47]] (by kernel_rfl) rfl
        ·rintro _ rfl
         rcases aj h16 with⟨hc15,h16⟩|⟨hc15,h16⟩
         ·refine ab.aI (b:=o12) (by kernel_rfl) hc15 ?_
          refine ab.ak tied [] [] [] [] (by kernel_rfl) trivial ?_
          refine ab.ret ?_
          obtain rfl:=Option.some.inj h16
          dsimp only at h12
          obtain rfl:=Option.some.inj h12
          dsimp only at h11
          obtain rfl:=Option.some.inj h11
          dsimp only at h
          obtain rfl:=Option.some.inj h
          exact(aG [] [some .bool] (fo 97 []) (by kernel_rfl)).1
         ·refine ab.aH (b:=o12) (by kernel_rfl) hc15 ?_
          refine ab.skip ?_
          obtain rfl:=Option.some.inj h16
          exact jQ.mk [.ar [1,5,7,9,32,33,34] [47]] (by kernel_rfl) ⟨_,rfl,rfl⟩
       ·rintro _ ⟨v16,rfl,rfl⟩
        dsimp only at h12
        obtain⟨hv17,h12⟩:=ai h12
        refine ab.eI tied [] [] [] [gr Tryz.prog G 40 3 (.int .i64)=true,List.length u1_1+1≤aO] (by kernel_rfl) ⟨ui,hv17,trivial⟩ ?_
        refine bN ?_
        obtain rfl:=Option.some.inj h12
        exact jQ.mk [.ar [1,5,7,32,33,34] [47]] (by kernel_rfl) ⟨_,rfl,rfl⟩
      ·rintro _ ⟨Ih,rfl,rfl⟩
       dsimp only at h11
       refine ab.eI tied [] [] [] [] (by kernel_rfl) trivial ?_
       exact aM.mk [.ar [1,5,7,32,33,34] [47]] (by kernel_rfl) ⟨_,_,h11,rfl⟩
     ·refine ab.aH (b:=decide (u1_0<(List.length y3.1:Int))) (by kernel_rfl) hc21 ?_
      refine ab.exit ?_
      refine tE ?_
      refine lE ?_
      refine bE ?_
      obtain rfl:=Option.some.inj h11
      exact jQ.mk [.ar [1,5] []] (by kernel_rfl) ⟨_,rfl,rfl⟩
   ·rintro _ ⟨v22,rfl,rfl⟩
    dsimp only at h
    refine ab.ak tied [] [] [] [] (by kernel_rfl) trivial ?_
    refine ab.ret ?_
    obtain rfl:=Option.some.inj h
    exact(aG [] [some .bool] (fo 97 []) (by kernel_rfl)).1
end Go.Proofs.YtmpdeifdnbhdiaaGreatDoor
