/- Made by program (dec.py): walks -/
import Derived.Test.YtmpdeifdnbhdiaaGreatDoorE1
set_option maxRecDepth 100000
namespace Go.Proofs.YtmpdeifdnbhdiaaGreatDoor
open Go.Abs
def jB(a0:List aO)(a1:List aO):Nat→Int→Option (iQ Unit Bool)
 |0,_=>none
 |n1+1,RS=>if(decide (RS<(List.length a0:Int)))=true then(if 0≤RS∧RS<(List.length a0:Int) then(if RS<(List.length a1:Int) then(if(!aP aD (nth aD a0 RS) (nth aD a1 RS))=true then(some (.ret false)) else(jB a0 a1 n1 (al (RS+(1:Int))))) else none) else none) else(some (.brk ()))
def f27(a0:List aO)(a1:List aO):Option Bool:=
 if(!decide ((List.length a0:Int)=(List.length a1:Int)))=true then(some false) else(Option.bind (jB a0 a1 (bC) (0:Int)) fun(o1:iQ Unit Bool)=>match o1 with| .brk _v6=>(some true)| .ret r7=>(some r7))
abbrev PW(a0:List aO)(a1:List aO)(r:Bool):Prop:=Fc Tryz.prog gl 27 [(.val (.slice 32 aD) a0),(.val (.slice 32 aD) a1)] (aA (List.replicate 66 none) []) (.ret (.val .bool r)) (bz 66 [])
theorem QW(a0:List aO)(a1:List aO)(r:Bool)(h:f27 a0 a1=some r):PW a0 a1 r:=by
 refine Fc.of Tryz.call27 (bW.aG tied Tryz.func27 rfl rfl (σ0:=ao 26 66 [(0,(.val (.slice 32 aD) a0)),(1,(.val (.slice 32 aD) a1))] []) (by kernel_rfl) ?_)
 unfold f27 at h
 refine aF ?_
 refine ai.seq ?_
 refine aF ?_
 rcases ae h with⟨hc8,h⟩|⟨hc8,h⟩
 ·refine cg hc8 ?_
  refine aF ?_
  refine ai.ret ?_
  obtain rfl:=Option.some.inj h
  exact(av [] [some .bool] (cL 66 []) (by kernel_rfl)).1
 ·refine cq hc8 ?_
  refine zk ?_
  obtain⟨o1,h1,h⟩:=bind_some h
  refine ai.aZ (fun σ'=>∃v6,o1= .brk v6∧σ'=ao 26 66 [] []) ?_ ?_
  ·refine aF ?_
   refine ai.block ?_
   refine ai.aV (fun n σ=>∃(RS:Int),jB a0 a1 n RS=some o1∧σ=ao 26 66 [(0,(.val (.slice 32 aD) a0)),(1,(.val (.slice 32 aD) a1)),(5,(.val (.int .i64) RS))] []) [.ak [0,1,5] []] (by kernel_rfl) ⟨_,h1,rfl⟩ ?_
   rintro n1 _ ⟨RS,h3,rfl⟩
   cases n1 with
   |zero=>exact absurd h3 (by simp[jB])
   |
    succ n1=>
    unfold jB at h3
    refine ai.seq ?_
    refine aF ?_
    rcases ae h3 with⟨hc5,h3⟩|⟨hc5,h3⟩
    ·refine cg hc5 ?_
     refine zk ?_
     refine ai.seq ?_
     refine ai.block ?_
     obtain⟨Sx,h3⟩:=ab h3
     obtain⟨hv3,h3⟩:=ab h3
     refine mf [] [] [] [0≤RS,RS<(List.length a0:Int),0≤RS,RS<(List.length a1:Int),fH Tryz.prog G 40 23 aD=true,Tryz.prog.eqGuardType Tryz.prog.depth 23=false] ⟨Sx.1,Sx.2,Sx.1,hv3,za,zb,trivial⟩ ?_
     rcases ae h3 with⟨hc4,h3⟩|⟨hc4,h3⟩
     ·refine cg hc4 ?_
      refine aF ?_
      refine ai.ret ?_
      obtain rfl:=Option.some.inj h3
      dsimp only at h
      obtain rfl:=Option.some.inj h
      exact(av [] [some .bool] (cL 66 []) (by kernel_rfl)).1
     ·refine cq hc4 ?_
      refine ai.skip ?_
      refine bN ?_
      change ai _ _ _ _ _
      refine fS ?_
      exact gI [.ak [0,1,5] []] ⟨_,h3,rfl⟩
    ·refine cq hc5 ?_
     refine ai.exit ?_
     refine ze ?_
     obtain rfl:=Option.some.inj h3
     exact bx [.ak [] []] ⟨_,rfl,rfl⟩
  ·rintro _ ⟨v6,rfl,rfl⟩
   dsimp only at h
   refine aF ?_
   refine ai.ret ?_
   obtain rfl:=Option.some.inj h
   exact(av [] [some .bool] (cL 66 []) (by kernel_rfl)).1
def jC(a0:List cY)(a1:List cY):Nat→Int→Option (iQ Unit Bool)
 |0,_=>none
 |n1+1,RS=>if(decide (RS<(List.length a0:Int)))=true then(Option.bind (Option.bind (if 0≤RS∧RS<(List.length a0:Int) then(if RS<(List.length a1:Int) then(if(!decide (((nth aY a0 RS).1)=((nth aY a1 RS).1)))=true then(some true) else(if(!decide ((((nth aY a0 RS).2).1)=(((nth aY a1 RS).2).1)))=true then(some true) else(if(!aP aD ((((nth aY a0 RS).2).2).1) ((((nth aY a1 RS).2).2).1))=true then(some true) else(Option.bind (f27 (((((nth aY a0 RS).2).2).2).1) (((((nth aY a1 RS).2).2).2).1)) fun y9=>some (!y9))))) else none) else none) fun(o3:Bool)=>if o3=true then(some (.ret false)) else(some (.brk ()))) fun(o2:iQ Unit Bool)=>match o2 with| .brk _v12=>(jC a0 a1 n1 (al (RS+(1:Int))))| .ret r13=>(some (.ret r13))) else(some (.brk ()))
def f13(a0:List cY)(a1:List cY):Option Bool:=
 if(!decide ((List.length a0:Int)=(List.length a1:Int)))=true then(some false) else(Option.bind (jC a0 a1 (bC) (0:Int)) fun(o1:iQ Unit Bool)=>match o1 with| .brk _v15=>(some true)| .ret r16=>(some r16))
abbrev Jf(a0:List cY)(a1:List cY)(r:Bool):Prop:=Fc Tryz.prog gl 13 [(.val (.slice 72 aY) a0),(.val (.slice 72 aY) a1)] (aA (List.replicate 108 none) []) (.ret (.val .bool r)) (bz 108 [])
theorem rR(a0:List cY)(a1:List cY)(r:Bool)(h:f13 a0 a1=some r):Jf a0 a1 r:=by
 refine Fc.of Tryz.call13 (bW.aG tied Tryz.func13 rfl rfl (σ0:=ao 68 108 [(0,(.val (.slice 72 aY) a0)),(1,(.val (.slice 72 aY) a1))] []) (by kernel_rfl) ?_)
 unfold f13 at h
 refine aF ?_
 refine ai.seq ?_
 refine aF ?_
 rcases ae h with⟨hc17,h⟩|⟨hc17,h⟩
 ·refine cg hc17 ?_
  refine aF ?_
  refine ai.ret ?_
  obtain rfl:=Option.some.inj h
  exact(av [] [some .bool] (cL 108 []) (by kernel_rfl)).1
 ·refine cq hc17 ?_
  refine zk ?_
  obtain⟨o1,h1,h⟩:=bind_some h
  refine ai.aZ (fun σ'=>∃v15,o1= .brk v15∧σ'=ao 68 108 [] []) ?_ ?_
  ·refine aF ?_
   refine ai.block ?_
   refine ai.aV (fun n σ=>∃(RS:Int),jC a0 a1 n RS=some o1∧σ=ao 68 108 [(0,(.val (.slice 72 aY) a0)),(1,(.val (.slice 72 aY) a1)),(5,(.val (.int .i64) RS))] []) [.ak [0,1,5] []] (by kernel_rfl) ⟨_,h1,rfl⟩ ?_
   rintro n1 _ ⟨RS,h6,rfl⟩
   cases n1 with
   |zero=>exact absurd h6 (by simp[jC])
   |
    succ n1=>
    unfold jC at h6
    refine ai.seq ?_
    refine aF ?_
    rcases ae h6 with⟨hc14,h6⟩|⟨hc14,h6⟩
    ·refine cg hc14 ?_
     refine zk ?_
     obtain⟨o2,h7,h6⟩:=bind_some h6
     refine ai.aZ (fun σ'=>∃Bi,o2= .brk Bi∧σ'=ao 68 108 [(0,(.val (.slice 72 aY) a0)),(1,(.val (.slice 72 aY) a1)),(5,(.val (.int .i64) RS))] []) ?_ ?_
     ·refine ai.block ?_
      obtain⟨o3,h9,h7⟩:=bind_some h7
      refine ai.aZ (fun σ'=>σ'=ao 68 108 [(0,(.val (.slice 72 aY) a0)),(1,(.val (.slice 72 aY) a1)),(5,(.val (.int .i64) RS)),(67,(.val .bool o3))] []) ?_ ?_
      ·obtain⟨SL,h9⟩:=ab h9
       obtain⟨hv5,h9⟩:=ab h9
       rcases ae h9 with⟨hg6,h9⟩|⟨hg6,h9⟩
       ·refine jM [] [true,true,true] [] [0≤RS,RS<(List.length a0:Int),0≤RS,RS<(List.length a1:Int),(!decide (((nth aY a0 RS).1)=((nth aY a1 RS).1)))=true,true=true,true=true] ⟨SL.1,SL.2,SL.1,hv5,hg6,rfl,rfl,trivial⟩ ?_
        obtain rfl:=Option.some.inj h9
        exact bx [.ak [0,1,5,67] []] rfl
       ·rcases ae h9 with⟨hg7,h9⟩|⟨hg7,h9⟩
        ·refine jM [] [false,true,true] [] [0≤RS,RS<(List.length a0:Int),0≤RS,RS<(List.length a1:Int),(!decide (((nth aY a0 RS).1)=((nth aY a1 RS).1)))=false,0≤RS,RS<(List.length a0:Int),0≤RS,RS<(List.length a1:Int),(!decide ((((nth aY a0 RS).2).1)=(((nth aY a1 RS).2).1)))=true,true=true] ⟨SL.1,SL.2,SL.1,hv5,hg6,SL.1,SL.2,SL.1,hv5,hg7,rfl,trivial⟩ ?_
         obtain rfl:=Option.some.inj h9
         exact bx [.ak [0,1,5,67] []] rfl
        ·rcases ae h9 with⟨hg8,h9⟩|⟨hg8,h9⟩
         ·refine jM [] [false,false,true] [] [0≤RS,RS<(List.length a0:Int),0≤RS,RS<(List.length a1:Int),(!decide (((nth aY a0 RS).1)=((nth aY a1 RS).1)))=false,0≤RS,RS<(List.length a0:Int),0≤RS,RS<(List.length a1:Int),(!decide ((((nth aY a0 RS).2).1)=(((nth aY a1 RS).2).1)))=false,0≤RS,RS<(List.length a0:Int),0≤RS,RS<(List.length a1:Int),fH Tryz.prog G 40 23 aD=true,Tryz.prog.eqGuardType Tryz.prog.depth 23=false,(!aP aD ((((nth aY a0 RS).2).2).1) ((((nth aY a1 RS).2).2).1))=true] ⟨SL.1,SL.2,SL.1,hv5,hg6,SL.1,SL.2,SL.1,hv5,hg7,SL.1,SL.2,SL.1,hv5,za,zb,hg8,trivial⟩ ?_
          obtain rfl:=Option.some.inj h9
          exact bx [.ak [0,1,5,67] []] rfl
         ·obtain⟨y9,hy10,h9⟩:=bind_some h9
          refine jM [⟨(.val .bool y9),[],[],[],66⟩] [false,false,false] [] [0≤RS,RS<(List.length a0:Int),0≤RS,RS<(List.length a1:Int),(!decide (((nth aY a0 RS).1)=((nth aY a1 RS).1)))=false,0≤RS,RS<(List.length a0:Int),0≤RS,RS<(List.length a1:Int),(!decide ((((nth aY a0 RS).2).1)=(((nth aY a1 RS).2).1)))=false,0≤RS,RS<(List.length a0:Int),0≤RS,RS<(List.length a1:Int),fH Tryz.prog G 40 23 aD=true,Tryz.prog.eqGuardType Tryz.prog.depth 23=false,(!aP aD ((((nth aY a0 RS).2).2).1) ((((nth aY a1 RS).2).2).1))=false,0≤RS,RS<(List.length a0:Int),0≤RS,RS<(List.length a1:Int),PW (((((nth aY a0 RS).2).2).2).1) (((((nth aY a1 RS).2).2).2).1) y9] ⟨SL.1,SL.2,SL.1,hv5,hg6,SL.1,SL.2,SL.1,hv5,hg7,SL.1,SL.2,SL.1,hv5,za,zb,hg8,SL.1,SL.2,SL.1,hv5,QW _ _ _ hy10,trivial⟩ ?_
          obtain rfl:=Option.some.inj h9
          exact bx [.ak [0,1,5,67] []] rfl
      ·rintro _ rfl
       rcases ae h7 with⟨hc11,h7⟩|⟨hc11,h7⟩
       ·refine cg hc11 ?_
        refine aF ?_
        refine ai.ret ?_
        obtain rfl:=Option.some.inj h7
        dsimp only at h6
        obtain rfl:=Option.some.inj h6
        dsimp only at h
        obtain rfl:=Option.some.inj h
        exact(av [] [some .bool] (cL 108 []) (by kernel_rfl)).1
       ·refine cq hc11 ?_
        refine ai.skip ?_
        refine bN ?_
        obtain rfl:=Option.some.inj h7
        exact bx [.ak [0,1,5] []] ⟨_,rfl,rfl⟩
     ·rintro _ ⟨Bi,rfl,rfl⟩
      dsimp only at h6
      refine fS ?_
      exact gI [.ak [0,1,5] []] ⟨_,h6,rfl⟩
    ·refine cq hc14 ?_
     refine ai.exit ?_
     refine ze ?_
     obtain rfl:=Option.some.inj h6
     exact bx [.ak [] []] ⟨_,rfl,rfl⟩
  ·rintro _ ⟨v15,rfl,rfl⟩
   dsimp only at h
   refine aF ?_
   refine ai.ret ?_
   obtain rfl:=Option.some.inj h
   exact(av [] [some .bool] (cL 108 []) (by kernel_rfl)).1
def f3(a0:aO)(a1:Int)(a2:List cY)(a3:Int)(a4:Int):Option Bool:=
 Option.bind (f5) fun y1=>if(!y1)=true then(some false) else(if(decide ((30:Int)<(List.length a2:Int)))=true then(some true) else(Option.bind (f6 a0 a1) fun y3=>Option.bind (f7 a0 a1) fun y5=>Option.bind (f8 a2) fun y7=>Option.bind (f9 a2) fun y9=>Option.bind (f10 a2 a3 a4) fun y11=>Option.bind (f11 a2 a3 a4) fun y13=>Option.bind (Option.bind (f12 y3.1 y5.1) fun y16=>if y16=true then(if(decide (y3.2=y5.2))=true then(Option.bind (f12 y7.1 y9.1) fun y20=>if y20=true then(Option.bind (f12 y7.2 y9.2) fun y23=>if y23=true then(Option.bind (f13 y11.1 y13.1) fun y26=>if y26=true then(some (decide (y11.2=y13.2))) else(some false)) else(some false)) else(some false)) else(some false)) else(some false)) fun(o15:Bool)=>some o15))
abbrev q3(a0:aO)(a1:Int)(a2:List cY)(a3:Int)(a4:Int)(r:Bool):Prop:=Fc Tryz.prog gl 3 [(.val aD a0),(.val (.int .i64) a1),(.val (.slice 72 aY) a2),(.val (.int .i64) a3),(.val (.int .i64) a4)] (aA (List.replicate 132 none) []) (.ret (.val .bool r)) (bz 132 [])
theorem x3(
 a0:aO) (a1:Int) (a2:List cY) (a3:Int) (a4:Int) (r:Bool) (h:f3 a0 a1 a2 a3 a4=some r):q3 a0 a1 a2 a3 a4 r:=by
 refine Fc.of Tryz.call3 (bW.aG tied Tryz.func3 rfl rfl (σ0:=ao 92 132 [(0,(.val aD a0)),(1,(.val (.int .i64) a1)),(2,(.val (.slice 72 aY) a2)),(3,(.val (.int .i64) a3)),(4,(.val (.int .i64) a4))] []) (by kernel_rfl) ?_)
 unfold f3 at h
 refine aF ?_
 refine ai.seq ?_
 obtain⟨y1,hy2,h⟩:=bind_some h
 refine cH [⟨(.val .bool y1),[],[],[],229⟩] [] [] [Fc Tryz.prog gl 5 [] (aA (List.replicate 229 none) []) (.ret (.val .bool y1)) (bz 229 [])] ⟨x5 _ hy2,trivial⟩ ?_
 rcases ae h with⟨hc30,h⟩|⟨hc30,h⟩
 ·refine cg hc30 ?_
  refine aF ?_
  refine ai.ret ?_
  obtain rfl:=Option.some.inj h
  exact(av [] [some .bool] (cL 132 []) (by kernel_rfl)).1
 ·refine cq hc30 ?_
  refine zk ?_
  refine ai.seq ?_
  refine aF ?_
  rcases ae h with⟨hc29,h⟩|⟨hc29,h⟩
  ·refine cg hc29 ?_
   refine aF ?_
   refine ai.ret ?_
   obtain rfl:=Option.some.inj h
   exact(av [] [some .bool] (cL 132 []) (by kernel_rfl)).1
  ·refine cq hc29 ?_
   refine zk ?_
   obtain⟨y3,hy4,h⟩:=bind_some h
   refine cH [⟨(.bU (.cons (.val (.slice 8 (.int .i64)) y3.1) (.cons (.val (.int .i64) y3.2) .nil))),[],[],[],90⟩] [] [] [q6 a0 a1 y3] ⟨x6 _ _ _ hy4,trivial⟩ ?_
   obtain⟨y5,hy6,h⟩:=bind_some h
   refine cH [⟨(.bU (.cons (.val (.slice 8 (.int .i64)) y5.1) (.cons (.val (.int .i64) y5.2) .nil))),[],[],[],92⟩] [] [] [q7 a0 a1 y5] ⟨x7 _ _ _ hy6,trivial⟩ ?_
   obtain⟨y7,hy8,h⟩:=bind_some h
   refine cH [⟨(.bU (.cons (.val (.slice 8 (.int .i64)) y7.1) (.cons (.val (.slice 8 (.int .i64)) y7.2) .nil))),[],[],[],80⟩] [] [] [q8 a2 y7] ⟨x8 _ _ hy8,trivial⟩ ?_
   obtain⟨y9,hy10,h⟩:=bind_some h
   refine cH [⟨(.bU (.cons (.val (.slice 8 (.int .i64)) y9.1) (.cons (.val (.slice 8 (.int .i64)) y9.2) .nil))),[],[],[],123⟩] [] [] [q9 a2 y9] ⟨x9 _ _ hy10,trivial⟩ ?_
   obtain⟨y11,hy12,h⟩:=bind_some h
   refine cH [⟨(.bU (.cons (.val (.slice 72 aY) y11.1) (.cons (.val (.int .i64) y11.2) .nil))),[],[],[],105⟩] [] [] [PJ a2 a3 a4 y11] ⟨tJ _ _ _ _ hy12,trivial⟩ ?_
   obtain⟨y13,hy14,h⟩:=bind_some h
   refine cH [⟨(.bU (.cons (.val (.slice 72 aY) y13.1) (.cons (.val (.int .i64) y13.2) .nil))),[],[],[],107⟩] [] [] [FR a2 a3 a4 y13] ⟨tK _ _ _ _ hy14,trivial⟩ ?_
   obtain⟨o15,h1,h⟩:=bind_some h
   refine ai.aZ (fun σ'=>σ'=ao 92 132 [(10,(.val .bool o15))] []) ?_ ?_
   ·obtain⟨y16,hy17,h1⟩:=bind_some h1
    rcases ae h1 with⟨hg18,h1⟩|⟨hg18,h1⟩
    ·rcases ae h1 with⟨hg19,h1⟩|⟨hg19,h1⟩
     ·obtain⟨y20,hy21,h1⟩:=bind_some h1
      rcases ae h1 with⟨hg22,h1⟩|⟨hg22,h1⟩
      ·obtain⟨y23,hy24,h1⟩:=bind_some h1
       rcases ae h1 with⟨hg25,h1⟩|⟨hg25,h1⟩
       ·obtain⟨y26,hy27,h1⟩:=bind_some h1
        rcases ae h1 with⟨hg28,h1⟩|⟨hg28,h1⟩
        ·refine kc [⟨(.val .bool y16),[],[],[],66⟩,⟨(.val .bool y20),[],[],[],66⟩,⟨(.val .bool y23),[],[],[],66⟩,⟨(.val .bool y26),[],[],[],108⟩] [true,true,true,true,true] [] [yO y3.1 y5.1 y16,y16=true,(decide (y3.2=y5.2))=true,yO y7.1 y9.1 y20,y20=true,yO y7.2 y9.2 y23,y23=true,Jf y11.1 y13.1 y26,y26=true] ⟨lM _ _ _ hy17,hg18,hg19,lM _ _ _ hy21,hg22,lM _ _ _ hy24,hg25,rR _ _ _ hy27,hg28,trivial⟩ ?_
         obtain rfl:=Option.some.inj h1
         exact bx [.ak [10] []] rfl
        ·refine kc [⟨(.val .bool y16),[],[],[],66⟩,⟨(.val .bool y20),[],[],[],66⟩,⟨(.val .bool y23),[],[],[],66⟩,⟨(.val .bool y26),[],[],[],108⟩] [true,true,true,true,false] [] [yO y3.1 y5.1 y16,y16=true,(decide (y3.2=y5.2))=true,yO y7.1 y9.1 y20,y20=true,yO y7.2 y9.2 y23,y23=true,Jf y11.1 y13.1 y26,y26=false] ⟨lM _ _ _ hy17,hg18,hg19,lM _ _ _ hy21,hg22,lM _ _ _ hy24,hg25,rR _ _ _ hy27,hg28,trivial⟩ ?_
         obtain rfl:=Option.some.inj h1
         exact bx [.ak [10] []] rfl
       ·refine kc [⟨(.val .bool y16),[],[],[],66⟩,⟨(.val .bool y20),[],[],[],66⟩,⟨(.val .bool y23),[],[],[],66⟩] [true,true,true,false,false] [] [yO y3.1 y5.1 y16,y16=true,(decide (y3.2=y5.2))=true,yO y7.1 y9.1 y20,y20=true,yO y7.2 y9.2 y23,y23=false,false=false] ⟨lM _ _ _ hy17,hg18,hg19,lM _ _ _ hy21,hg22,lM _ _ _ hy24,hg25,rfl,trivial⟩ ?_
        obtain rfl:=Option.some.inj h1
        exact bx [.ak [10] []] rfl
      ·refine kc [⟨(.val .bool y16),[],[],[],66⟩,⟨(.val .bool y20),[],[],[],66⟩] [true,true,false,false,false] [] [yO y3.1 y5.1 y16,y16=true,(decide (y3.2=y5.2))=true,yO y7.1 y9.1 y20,y20=false,false=false,false=false] ⟨lM _ _ _ hy17,hg18,hg19,lM _ _ _ hy21,hg22,rfl,rfl,trivial⟩ ?_
       obtain rfl:=Option.some.inj h1
       exact bx [.ak [10] []] rfl
     ·refine kc [⟨(.val .bool y16),[],[],[],66⟩] [true,false,false,false,false] [] [yO y3.1 y5.1 y16,y16=true,(decide (y3.2=y5.2))=false,false=false,false=false,false=false] ⟨lM _ _ _ hy17,hg18,hg19,rfl,rfl,rfl,trivial⟩ ?_
      obtain rfl:=Option.some.inj h1
      exact bx [.ak [10] []] rfl
    ·refine kc [⟨(.val .bool y16),[],[],[],66⟩] [false,false,false,false,false] [] [yO y3.1 y5.1 y16,y16=false,false=false,false=false,false=false,false=false] ⟨lM _ _ _ hy17,hg18,rfl,rfl,rfl,rfl,trivial⟩ ?_
     obtain rfl:=Option.some.inj h1
     exact bx [.ak [10] []] rfl
   ·rintro _ rfl
    refine ai.ret ?_
    obtain rfl:=Option.some.inj h
    exact(av [] [some .bool] (cL 132 []) (by kernel_rfl)).1
end Go.Proofs.YtmpdeifdnbhdiaaGreatDoor
