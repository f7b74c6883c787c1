/- The keys, and which atoms the laws meet; the chapter's rows (awake). No condition. -/
import Derived.Test.YtbcpapkjdphfpaaCore24
import Derived.Test.YtbcpapkjdphfpaaIr
import Derived.KernelRfl
namespace Go.Proofs.Ytbcpapkjdphfpaa.Run
open Go.Ab
def k0 : List UInt8 := [83, 121, 115, 116, 101, 109, 67, 97, 108, 108, 65, 114, 99, 104, 105, 116, 101, 99, 116, 117, 114, 101, 115]
def k1 : List UInt8 := [82, 101, 115, 116, 114, 105, 99, 116, 65, 100, 100, 114, 101, 115, 115, 70, 97, 109, 105, 108, 105, 101, 115]
def k2 : List UInt8 := [82, 101, 115, 116, 114, 105, 99, 116, 78, 97, 109, 101, 115, 112, 97, 99, 101, 115]
def k3 : List UInt8 := [77, 101, 109, 111, 114, 121, 68, 101, 110, 121, 87, 114, 105, 116, 101, 69, 120, 101, 99, 117, 116, 101]
def k4 : List UInt8 := [76, 111, 99, 107, 80, 101, 114, 115, 111, 110, 97, 108, 105, 116, 121]
def k5 : List UInt8 := [82, 101, 115, 116, 114, 105, 99, 116, 82, 101, 97, 108, 116, 105, 109, 101]
def k6 : List UInt8 := [78, 111, 78, 101, 119, 80, 114, 105, 118, 105, 108, 101, 103, 101, 115]
def keys : List (List UInt8) := [k0, k1, k2, k3, k4, k5, k6]
def rems : List Int := [0, 1, 2, 3, 4, 5, 6, 7]
/-- 0 a key, 1 its length, 2 a number -/
def rAt (ne : List (List UInt8)) (lo hi : Int) (j : Nat) : At := match j with | 0 => .str 1 ne | 1 => .int .i64 lo hi [] | 2 => .int .u32 0 4294967295 [] | _ => .bool
def tabA : List (Nat × List AV × Ans) := [(9, [], .val (.b true))]
noncomputable def orcK (ne : List (List UInt8)) (lo hi : Int) : Orc := (atOrc (rAt ne lo hi)).calls tabA
noncomputable def orcF (k : Int) : Orc := (orcK [] 0 0).bins [(.rem, .sym 2, .i .u32 8, .i .u32 k)]
theorem awk : ansK (atOrc fun _ => .bool) Ir.env 1000000 9 [] (.b true) True = True := by kernel_rfl
theorem keyK : allK keys (fun x q => yesK (orcK [] 0 0) Ir.env 1000000 3 [.s x] q) = True := by kernel_rfl
theorem keyU : yesK (orcK keys 0 200) Ir.env 1000000 3 [.sym 0] True = True := by kernel_rfl
theorem keyL : yesK (orcK [] 201 9223372036854775807) Ir.env 1000000 3 [.sym 0] True = True := by kernel_rfl
theorem famT : allK rems (fun k q => yesK (orcF k) Ir.env 1000000 6 [.sym 2, .b true] q) = True := by kernel_rfl
theorem famF : allK rems (fun k q => yesK (orcF k) Ir.env 1000000 6 [.sym 2, .b false] q) = True := by kernel_rfl
end Go.Proofs.Ytbcpapkjdphfpaa.Run
