/- Tables of answers for the runs of the laws of calls. No condition. -/
import Derived.Test.YtpggfccbfplphaaRow
namespace Go.Proofs.Ytpggfccbfplphaa.Tab
open Go.Ab
def numT (a : AV) (l : List (List UInt8 × Int × Int)) : List (Nat × List AV × Ans) := l.map fun x => (11, [a, .s x.1], .val (.tup [.i .u32 x.2.1, .i .i64 x.2.2]))
def noneT (l : List (List UInt8)) : List (Nat × List AV × Ans) := l.map fun x => (11, [.sym 0, .s x], .val (.tup [.i .u32 0, .i .i64 90]))
def namT (a : AV) (l : List (Int × List UInt8)) : List (Nat × List AV × Ans) := l.map fun x => (17, [a, .i .u32 x.1], .val (.s x.2))
def knwT (l : List (List UInt8)) : List (Nat × List AV × Ans) := l.map fun x => (15, [.s x], .val (.b true))
def restT (l : List (List UInt8)) : List (Nat × List AV × Ans) := (19, [], .val (.b true)) :: (13, [], .row 1 40 rowN) :: knwT l
/-- the law CallsOne's -/
def oneT (a : Int) (l : List (List UInt8 × Int × Int)) (k : List (Int × List UInt8)) (n : Nat) (c : List (Int × List UInt8)) : List (Nat × List AV × Ans) := (20, [.i .i64 a], .row 2 n (cells c)) :: (restT names ++ (numT (.i .i64 a) l ++ namT (.i .i64 a) k))
def oneU (a : Int) (l : List (List UInt8 × Int × Int)) (k : List (Int × List UInt8)) (n : Nat) (c : List (Int × List UInt8)) : List (Nat × List AV × Ans) := (17, [.i .i64 a, .sym 1], .val (.s [])) :: oneT a l k n c
/-- 0 the architecture, 1 the number, 2 the architecture without its sign -/
def oneAt (ne : List Int) (j : Nat) : At := match j with | 0 => .int .i64 (-9223372036854775808) 9223372036854775807 [] | 1 => .int .u32 0 4294967295 ne | 2 => .int .u64 0 18446744073709551615 [] | _ => .bool
noncomputable def oneOrc (ne : List Int) (a : Int) (tab : List (Nat × List AV × Ans)) : Orc := (((atOrc (oneAt ne)).cvs [(.u64, 0, .sym 2)]).bins [(.rem, .sym 2, .i .u64 6, .i .u64 a)]).calls tab
/-- the law CallsKnown's -/
def hasT (a : Int) (l : List (List UInt8 × Int × Int)) (n : Nat) (c : List (Int × List UInt8)) : List (Nat × List AV × Ans) := (20, [.i .i64 a], .row 2 n (cells c)) :: (restT names ++ numT (.i .i64 a) l)
def hasU (a : Int) (n : Nat) (c : List (Int × List UInt8)) : List (Nat × List AV × Ans) := (20, [.i .i64 a], .row 2 n (cells c)) :: (15, [.sym 1], .val (.b false)) :: (11, [.i .i64 a, .sym 1], .val (.tup [.i .u32 0, .i .i64 90])) :: restT names
def outT : List (Nat × List AV × Ans) := (20, [.sym 0], .val .nils) :: (restT names ++ noneT names)
def outU : List (Nat × List AV × Ans) := (20, [.sym 0], .val .nils) :: (15, [.sym 1], .val (.b false)) :: (11, [.sym 0, .sym 1], .val (.tup [.i .u32 0, .i .i64 90])) :: restT names
/-- 0 the architecture, 1 the name, 2 its length -/
def hasAt (ne : List (List UInt8)) (lo hi : Int) (j : Nat) : At := match j with | 0 => .int .i64 (-9223372036854775808) 9223372036854775807 [] | 1 => .str 2 ne | 2 => .int .i64 lo hi [] | _ => .bool
/-- the law CallsTells': 0 the architecture, 1 the name, 2 its length, 3 and 4 Number's answer, 5 the number, 6 Name's answer, 7 its length -/
def telAt (lo hi : Int) (j : Nat) : At := match j with | 0 => .int .i64 (-9223372036854775808) 9223372036854775807 [] | 1 => .str 2 [] | 2 => .int .i64 lo hi [] | 3 => .int .u32 0 4294967295 [] | 4 => .int .i64 0 90 [] | 5 => .int .u32 0 4294967295 [] | 6 => .str 7 [] | 7 => .int .i64 0 9223372036854775807 [] | _ => .bool
def telTab (b : Bool) : List (Nat × List AV × Ans) := [(11, [.sym 0, .sym 1], .val (.tup [.sym 3, .sym 4])), (12, [.sym 0, .sym 1], .val (.tup [.sym 3, .sym 4])), (15, [.sym 1], .val (.b b)), (16, [.sym 1], .val (.b b)), (17, [.sym 0, .sym 5], .val (.sym 6)), (18, [.sym 0, .sym 5], .val (.sym 6)), (19, [], .val (.b true))]
end Go.Proofs.Ytpggfccbfplphaa.Tab
