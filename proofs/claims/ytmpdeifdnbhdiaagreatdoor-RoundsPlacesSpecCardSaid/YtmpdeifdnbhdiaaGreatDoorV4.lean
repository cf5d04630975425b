/- Sorting by the digests: the pivot, the patterns, the scan of a sorted row, the other partition. -/
import Derived.Test.YtmpdeifdnbhdiaaGreatDoorV3
namespace Go.Proofs.YtmpdeifdnbhdiaaGreatDoor
open Go.Abs Go.Sort
section
variable{D:List aO} (hD:Ok D)
include hD
theorem JR{d:Array Int}(hd:Rw D d){x y:Nat}(s:Nat)(hx:x<d.size)(hy:y<d.size)(hs:s≤1000):jz d.toList (x:Int) (y:Int) D (s:Int)=some ((((order2 (lt D) d x y s).1:Nat):Int),(((order2 (lt D) d x y s).2.1:Nat):Int),(((order2 (lt D) d x y s).2.2:Nat):Int))∧(order2 (lt D) d x y s).1<d.size∧(order2 (lt D) d x y s).2.1<d.size∧(order2 (lt D) d x y s).2.2≤s+1:=by
 obtain⟨c,e1,e2⟩:=sc hD hd hy hx
 unfold jz order2
 rw[eR,if_pos (by omega),if_pos (by omega),e1]
 simp only[Option.bind]
 cases hc:lt D d[y]! d[x]! with
 |
  true=>
  rw[hc] at e2
  simp only[e2,if_true]
  rw[aE (by omega)]
  exact⟨rfl,hy,hx,by omega⟩
 |
  false=>
  rw[hc] at e2
  simp only[e2,Bool.false_eq_true,if_false]
  exact⟨trivial,hx,hy,by omega⟩
theorem PE{d:Array Int}(hd:Rw D d){x y z:Nat}(s:Nat)(hx:x<d.size)(hy:y<d.size)(hz:z<d.size)(hs:s≤100):jA d.toList (x:Int) (y:Int) (z:Int) D (s:Int)=some ((((median (lt D) d x y z s).1:Nat):Int),(((median (lt D) d x y z s).2:Nat):Int))∧(median (lt D) d x y z s).1<d.size:=by
 obtain⟨a1,a2,a3,a4⟩:=JR hD hd s hx hy (by omega)
 unfold jA median
 rw[a1]
 simp only[Option.bind]
 generalize order2 (lt D) d x y s=r1 at*
 obtain⟨b1,b2,b3,b4⟩:=JR hD hd r1.2.2 a3 hz (by omega)
 rw[b1]
 simp only
 generalize order2 (lt D) d r1.2.1 z r1.2.2=r2 at*
 obtain⟨c1,c2,c3,c4⟩:=JR hD hd r2.2.2 a2 b2 (by omega)
 rw[c1]
 exact⟨rfl,c3⟩
end
theorem gJ{a b:Nat}(h:a≤b)(hb:b≤1000):al ((b:Int) -(a:Int))=((b -a:Nat):Int):=by
 rw[aN (by omega) (by omega)];omega
theorem mL{a b:Nat}(c:Nat)(h:a≤b)(hb:b≤1000)(hc:c≤3):al ((a:Int)+al (al (Int.tdiv (al ((b:Int) -(a:Int))) 4)*(c:Int)))=((a+(b -a) / 4*c:Nat):Int):=by
 rw[gJ h hb]
 have e:Int.tdiv ((b -a:Nat):Int) 4=(((b -a) / 4:Nat):Int):=rfl
 have hq:(b -a) / 4≤250:=by omega
 rw[e,aN (x:=(((b -a) / 4:Nat):Int)) (by omega) (by omega),←Int.natCast_mul]
 have hm:(b -a) / 4*c≤250*3:=Nat.mul_le_mul hq hc
 rw[aN (x:=(((b -a) / 4*c:Nat):Int)) (by omega) (by omega),aN (by omega) (by omega)]
 omega
def lz:Hint→Int
 | .unknown=>0
 | .increasing=>1
 | .decreasing=>2
section
variable{D:List aO} (hD:Ok D)
include hD
theorem Q4{d:Array Int}(hd:Rw D d){a b:Nat}(hb:b≤d.size)(hl:12<b -a):qb d.toList (a:Int) (b:Int) D=some ((((choosePivot (lt D) d a b).1:Nat):Int),lz (choosePivot (lt D) d a b).2):=by
 have hs:=hd.sz
 have q1:=mL (a:=a) (b:=b) 1 (by omega) (by omega) (by omega)
 have q2:=mL (a:=a) (b:=b) 2 (by omega) (by omega) (by omega)
 have q3:=mL (a:=a) (b:=b) 3 (by omega) (by omega) (by omega)
 rw[show((1:Nat):Int)=1 from rfl] at q1
 rw[show((2:Nat):Int)=2 from rfl] at q2
 rw[show((3:Nat):Int)=3 from rfl] at q3
 have hq:(b -a) / 4*3<b -a:=by omega
 obtain⟨m1,m2⟩:=PE hD hd (x:=a+(b -a) / 4*1) (y:=a+(b -a) / 4*2) (z:=a+(b -a) / 4*3) 0 (by omega) (by omega) (by omega) (by omega)
 unfold qb
 rw[if_pos (by rw[gJ (by omega) (by omega)];simpa using by omega),if_neg (by rw[gJ (by omega) (by omega)];simpa using by omega),q1,q2,q3]
 simp only[Option.bind]
 rw[show jA d.toList ((a+(b -a) / 4*1:Nat):Int) ((a+(b -a) / 4*2:Nat):Int) ((a+(b -a) / 4*3:Nat):Int) D 0=_ from m1]
 unfold choosePivot
 simp only
 rw[if_pos (show b -a≥8 by omega),if_neg (show¬b -a≥50 by omega)]
 generalize median (lt D) d (a+(b -a) / 4*1) (a+(b -a) / 4*2) (a+(b -a) / 4*3) 0=r at*
 by_cases e0:r.2=0
 ·rw[if_pos (by simp[e0]),if_pos e0];rfl
 ·rw[if_neg (by simp;omega),if_neg e0]
  by_cases e1:r.2=12
  ·rw[if_pos (by simp[e1]),if_pos e1];rfl
  ·rw[if_neg (by simp;omega),if_neg e1];rfl
end
end Go.Proofs.YtmpdeifdnbhdiaaGreatDoor
