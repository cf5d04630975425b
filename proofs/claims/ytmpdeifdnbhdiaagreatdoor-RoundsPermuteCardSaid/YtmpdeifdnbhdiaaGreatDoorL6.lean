/- The program's digest of parts is the reference's digest of the whole: the padding. No condition beyond what each theorem states. -/
import Derived.Test.YtmpdeifdnbhdiaaGreatDoorL5
namespace Go.Proofs.YtmpdeifdnbhdiaaGreatDoor
open Go.Abs
def lb(n i:Nat):Int:=IntKind.u8.wrap (Int.fdiv (IntKind.u64.wrap ((n:Int)*8)) (2^(min (8*i) 64)))
def gi(n:Nat):List Int:=[lb n 7,lb n 6,lb n 5,lb n 4,lb n 3,lb n 2,lb n 1,lb n 0]
def cO(n:Nat):Nat:=(119 -n % 64) % 64
def pad(T:List Int):List Int:=T++([128]++(List.replicate (cO T.length) 0++gi T.length))
theorem Ee(x:Int):0≤IntKind.u8.wrap x∧IntKind.u8.wrap x<256:=by
 simp only[IntKind.wrap,IntKind.bits,IntKind.signed]
 simp
 omega
theorem mH(n:Nat):jG (gi n):=by
 intro x hx
 simp only[gi,List.mem_cons,List.not_mem_nil,or_false] at hx
 rcases hx with h|h|h|h|h|h|h|h<;>(rw[h];exact Ee _)
theorem oe(n:Nat):jG (List.replicate n 0):=by
 intro x hx
 have:x=0:=List.eq_of_mem_replicate hx
 omega
theorem Ef:jG [128]:=by
 intro x hx
 have:x=128:=by simpa using hx
 omega
theorem B8{T:List Int}(h:jG T):jG (pad T):=h.append (Ef.append ((oe _).append (mH _)))
theorem B9(T:List Int):(pad T).length=64*((T.length+72) / 64):=by
 simp only[pad,List.length_append,List.length_cons,List.length_nil,List.length_replicate,gi,cO]
 omega
end Go.Proofs.YtmpdeifdnbhdiaaGreatDoor
