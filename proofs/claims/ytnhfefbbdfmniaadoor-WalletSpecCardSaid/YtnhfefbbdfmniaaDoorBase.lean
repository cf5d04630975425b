/- Made by program (dec.py): the types of the seat, as the abstract machine sees them. -/
import Derived.Test.YtnhfefbbdfmniaaDoorProg
import Derived.Test.YtnhfefbbdfmniaaDoorA3
import Derived.KernelRfl
namespace Go.Proofs.YtnhfefbbdfmniaaDoor
open Go.Abs

abbrev T7 : Ty := (.pair (.int .i64) (.pair (.int .i64) (.pair .bool (.pair (.int .u8) .unit))))
abbrev T13 : Ty := (.pair .str (.pair (.int .u64) .unit))
abbrev T18 : Ty := (.pair (.opq .ptr) .unit)
abbrev T44 : Ty := (.arr 32 (.int .u8))
abbrev T81 : Ty := (.pair (.int .i64) (.pair (.slice 32 T44) (.pair (.slice 32 T44) .unit)))
abbrev T48 : Ty := (.pair (.int .i64) (.pair (.int .i64) (.pair (.int .i64) (.pair (.int .i64) (.pair T44 (.pair (.slice 8 (.int .i64)) (.pair (.slice 32 T44) (.pair (.slice 56 T81) .unit))))))))
abbrev T53 : Ty := (.pair T44 (.pair (.slice 32 T44) .unit))
abbrev T55 : Ty := (.pair T48 (.pair T53 (.pair (.int .i64) (.pair (.int .i64) .unit))))
abbrev T23 : Ty := (.pair (.int .i64) (.pair (.int .i64) (.pair (.slice 208 T55) .unit)))
abbrev T57 : Ty := (.pair (.int .i64) (.pair (.slice 8 (.int .i64)) (.pair (.slice 8 (.int .i64)) .unit)))
abbrev T73 : Ty := (.pair T23 .unit)
abbrev T76 : Ty := (.pair (.int .i64) (.pair (.int .i64) .unit))
abbrev T90 : Ty := (.arr 19 T44)
abbrev T106 : Ty := (.arr 8 (.int .u32))
abbrev T112 : Ty := (.arr 64 (.int .u8))
abbrev T115 : Ty := (.arr 64 (.int .u32))
abbrev T121 : Ty := (.pair (.opq .ptr) (.pair (.opq .ptr) (.pair (.opq .ptr) (.pair .str .unit))))
abbrev T133 : Ty := (.pair (.int .u64) (.pair (.int .u64) (.pair (.int .u32) (.pair (.int .u8) (.pair (.int .u8) (.pair (.int .u8) (.pair (.int .u8) (.pair (.opq .func) (.pair (.opq .ptr) (.pair (.int .i32) (.pair (.int .i32) .unit)))))))))))
abbrev D7 : Type := Int × Int × Bool × Int × Unit
abbrev D13 : Type := (List UInt8) × Int × Unit
abbrev D18 : Type := Unit × Unit
abbrev D44 : Type := List Int
abbrev D81 : Type := Int × (List D44) × (List D44) × Unit
abbrev D48 : Type := Int × Int × Int × Int × D44 × (List Int) × (List D44) × (List D81) × Unit
abbrev D53 : Type := D44 × (List D44) × Unit
abbrev D55 : Type := D48 × D53 × Int × Int × Unit
abbrev D23 : Type := Int × Int × (List D55) × Unit
abbrev D57 : Type := Int × (List Int) × (List Int) × Unit
abbrev D73 : Type := D23 × Unit
abbrev D76 : Type := Int × Int × Unit
abbrev D90 : Type := List D44
abbrev D106 : Type := List Int
abbrev D112 : Type := List Int
abbrev D115 : Type := List Int
abbrev D121 : Type := Unit × Unit × Unit × (List UInt8) × Unit
abbrev D133 : Type := Int × Int × Int × Int × Int × Int × Int × Unit × Unit × Int × Int × Unit

def G : Tab := [none, some ⟨(.opq .func), 0, 0⟩, some ⟨(.int .i64), 0, 0⟩, some ⟨(.int .i64), 0, 0⟩, some ⟨.bool, 0, 0⟩, some ⟨(.int .u8), 0, 0⟩, some ⟨(.int .u8), 0, 0⟩, some ⟨T7, 0, 0⟩, some ⟨T7, 0, 0⟩, some ⟨.str, 0, 0⟩, some ⟨.str, 0, 0⟩, some ⟨.str, 0, 0⟩, some ⟨(.int .u64), 0, 0⟩, some ⟨T13, 0, 0⟩, some ⟨T13, 0, 0⟩, some ⟨(.opq .ptr), 0, 0⟩, some ⟨(.opq .ptr), 0, 0⟩, some ⟨(.opq .ptr), 0, 0⟩, some ⟨T18, 0, 0⟩, some ⟨T18, 0, 0⟩, some ⟨(.opq .iface), 0, 0⟩, some ⟨(.int .i32), 0, 0⟩, some ⟨(.slice 208 T55), 55, 0⟩, some ⟨T23, 0, 0⟩, some ⟨T23, 0, 0⟩, some ⟨(.opq .func), 0, 0⟩, some ⟨(.opq .func), 0, 0⟩, some ⟨(.int .i64), 0, 0⟩, none, some ⟨(.opq .func), 0, 0⟩, some ⟨(.slice 56 T57), 57, 0⟩, some ⟨(.slice 8 (.int .i64)), 3, 0⟩, none, some ⟨(.opq .func), 0, 0⟩, some ⟨(.opq .func), 0, 0⟩, some ⟨(.opq .func), 0, 0⟩, some ⟨(.opq .func), 0, 0⟩, some ⟨(.opq .func), 0, 0⟩, some ⟨(.opq .func), 0, 0⟩, some ⟨(.opq .func), 0, 0⟩, some ⟨(.opq .func), 0, 0⟩, some ⟨(.slice 136 T48), 48, 0⟩, some ⟨(.slice 56 T53), 53, 0⟩, some ⟨T44, 5, 1⟩, some ⟨T44, 5, 1⟩, some ⟨(.slice 32 T44), 44, 0⟩, some ⟨(.slice 56 T81), 81, 0⟩, some ⟨T48, 0, 0⟩, some ⟨T48, 0, 0⟩, some ⟨(.opq .func), 0, 0⟩, some ⟨(.opq .func), 0, 0⟩, some ⟨(.opq .func), 0, 0⟩, some ⟨T53, 0, 0⟩, some ⟨T53, 0, 0⟩, some ⟨T55, 0, 0⟩, some ⟨T55, 0, 0⟩, some ⟨T57, 0, 0⟩, some ⟨T57, 0, 0⟩, some ⟨(.opq .func), 0, 0⟩, some ⟨(.opq .func), 0, 0⟩, some ⟨(.opq .func), 0, 0⟩, none, some ⟨(.opq .func), 0, 0⟩, some ⟨(.opq .func), 0, 0⟩, some ⟨(.opq .func), 0, 0⟩, some ⟨(.opq .func), 0, 0⟩, some ⟨(.opq .func), 0, 0⟩, some ⟨(.opq .func), 0, 0⟩, some ⟨(.opq .func), 0, 0⟩, some ⟨(.opq .ptr), 0, 0⟩, some ⟨(.opq .func), 0, 0⟩, some ⟨(.opq .func), 0, 0⟩, some ⟨(.opq .func), 0, 0⟩, some ⟨T73, 0, 0⟩, some ⟨T73, 0, 0⟩, some ⟨(.opq .map), 77, 4⟩, some ⟨T76, 0, 0⟩, some ⟨T76, 0, 0⟩, some ⟨(.opq .func), 0, 0⟩, some ⟨(.opq .func), 0, 0⟩, some ⟨T81, 0, 0⟩, some ⟨T81, 0, 0⟩, some ⟨(.opq .func), 0, 0⟩, some ⟨(.opq .func), 0, 0⟩, some ⟨(.opq .func), 0, 0⟩, some ⟨(.opq .func), 0, 0⟩, some ⟨(.opq .func), 0, 0⟩, some ⟨(.opq .func), 0, 0⟩, some ⟨(.opq .func), 0, 0⟩, some ⟨(.opq .func), 0, 0⟩, some ⟨T90, 44, 32⟩, some ⟨(.opq .func), 0, 0⟩, some ⟨(.opq .func), 0, 0⟩, some ⟨(.opq .func), 0, 0⟩, some ⟨(.opq .func), 0, 0⟩, some ⟨(.opq .func), 0, 0⟩, some ⟨(.opq .func), 0, 0⟩, some ⟨(.opq .func), 0, 0⟩, some ⟨(.opq .func), 0, 0⟩, some ⟨(.slice 1 (.int .u8)), 5, 0⟩, some ⟨(.opq .func), 0, 0⟩, some ⟨(.slice 24 (.slice 1 (.int .u8))), 99, 0⟩, some ⟨(.opq .func), 0, 0⟩, some ⟨(.opq .func), 0, 0⟩, some ⟨(.opq .func), 0, 0⟩, some ⟨(.int .u32), 0, 0⟩, some ⟨T106, 105, 4⟩, some ⟨T106, 105, 4⟩, some ⟨(.opq .func), 0, 0⟩, some ⟨(.opq .func), 0, 0⟩, some ⟨(.opq .func), 0, 0⟩, some ⟨(.opq .func), 0, 0⟩, some ⟨T112, 5, 1⟩, some ⟨(.int .u64), 0, 0⟩, some ⟨(.opq .ptr), 0, 0⟩, some ⟨T115, 105, 4⟩, some ⟨(.int .u64), 0, 0⟩, some ⟨(.opq .func), 0, 0⟩, some ⟨(.opq .func), 0, 0⟩, some ⟨(.opq .func), 0, 0⟩, some ⟨(.opq .func), 0, 0⟩, some ⟨T121, 0, 0⟩, some ⟨T121, 0, 0⟩, none, none, none, some ⟨(.opq .func), 0, 0⟩, some ⟨(.int .u8), 0, 0⟩, some ⟨(.int .u8), 0, 0⟩, some ⟨(.opq .func), 0, 0⟩, some ⟨(.opq .ptr), 0, 0⟩, some ⟨(.int .i32), 0, 0⟩, some ⟨(.int .i32), 0, 0⟩, some ⟨T133, 0, 0⟩, some ⟨T133, 0, 0⟩, none]
def konst0 : List Int := [1116352408, 1899447441, 3049323471, 3921009573, 961987163, 1508970993, 2453635748, 2870763221, 3624381080, 310598401, 607225278, 1426881987, 1925078388, 2162078206, 2614888103, 3248222580, 3835390401, 4022224774, 264347078, 604807628, 770255983, 1249150122, 1555081692, 1996064986, 2554220882, 2821834349, 2952996808, 3210313671, 3336571891, 3584528711, 113926993, 338241895, 666307205, 773529912, 1294757372, 1396182291, 1695183700, 1986661051, 2177026350, 2456956037, 2730485921, 2820302411, 3259730800, 3345764771, 3516065817, 3600352804, 4094571909, 275423344, 430227734, 506948616, 659060556, 883997877, 958139571, 1322822218, 1537002063, 1747873779, 1955562222, 2024104815, 2227730452, 2361852424, 2428436474, 2756734187, 3204031479, 3329325298]
def gl : Ctx := Ctx.of [⟨0, T115, konst0⟩]
theorem tied : Tied Tryd.prog G := Tied.mk' (by kernel_rfl) (by kernel_rfl)

end Go.Proofs.YtnhfefbbdfmniaaDoor
