/- The groups' names, and which atoms the laws of groups meet. No condition. -/
import Derived.Test.YtpggfccbfplphaaTab
namespace Go.Proofs.Ytpggfccbfplphaa.Grp
open Go.Ab
def g0 : List UInt8 := [64, 98, 97, 115, 105, 99, 45, 105, 111]
def g1 : List UInt8 := [64, 99, 108, 111, 99, 107]
def g2 : List UInt8 := [64, 100, 101, 98, 117, 103]
def g3 : List UInt8 := [64, 102, 105, 108, 101]
def g4 : List UInt8 := [64, 109, 101, 109, 111, 114, 121]
def g5 : List UInt8 := [64, 109, 111, 100, 117, 108, 101]
def g6 : List UInt8 := [64, 109, 111, 117, 110, 116]
def g7 : List UInt8 := [64, 110, 101, 115, 116]
def g8 : List UInt8 := [64, 110, 101, 115, 116, 45, 50]
def g9 : List UInt8 := [64, 110, 101, 115, 116, 45, 51]
def g10 : List UInt8 := [64, 110, 101, 115, 116, 45, 52]
def g11 : List UInt8 := [64, 110, 101, 115, 116, 45, 53]
def g12 : List UInt8 := [64, 110, 101, 116, 119, 111, 114, 107]
def g13 : List UInt8 := [64, 112, 114, 105, 118, 105, 108, 101, 103, 101, 100]
def g14 : List UInt8 := [64, 112, 114, 111, 99, 101, 115, 115]
def g15 : List UInt8 := [64, 114, 101, 98, 111, 111, 116]
def g16 : List UInt8 := [64, 114, 101, 115, 111, 117, 114, 99, 101, 115]
def g17 : List UInt8 := [64, 115, 121, 115, 116, 101, 109]
def groups : List (List UInt8) := [g0, g1, g2, g3, g4, g5, g6, g7, g8, g9, g10, g11, g12, g13, g14, g15, g16, g17]
def rems : List Int := [0, 1, 2, 3, 4, 5, 6, 7, 8, 9, 10, 11, 12, 13, 14, 15, 16, 17]
def rems0 : List Int := [0, 1, 2, 3, 4, 5]
def rems1 : List Int := [6, 7, 8, 9, 10, 11]
def rems2 : List Int := [12, 13, 14, 15, 16, 17]
/-- 0 a number, 1 it without its sign, 2 a name, 3 its length -/
def gAt (ne : List (List UInt8)) (lo hi : Int) (j : Nat) : At := match j with | 0 => .int .i64 (-9223372036854775808) 9223372036854775807 [] | 1 => .int .u64 0 18446744073709551615 [] | 2 => .str 3 ne | 3 => .int .i64 lo hi [] | _ => .bool
def tabK : List (Nat × List AV × Ans) := (25, [], .val (.b true)) :: Tab.names.map fun x => (15, [.s x], .val (.b true))
noncomputable def orcG (ne : List (List UInt8)) (lo hi : Int) : Orc := (atOrc (gAt ne lo hi)).calls tabK
noncomputable def orcR (ne : List (List UInt8)) (lo hi : Int) (k : Int) : Orc := ((orcG ne lo hi).cvs [(.u64, 0, .sym 1)]).bins [(.rem, .sym 1, .i .u64 18, .i .u64 k)]
end Go.Proofs.Ytpggfccbfplphaa.Grp
