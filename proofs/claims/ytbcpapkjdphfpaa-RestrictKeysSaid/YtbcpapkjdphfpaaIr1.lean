/- The code of functions of this seat, as the abstract machine has it, part 1. No condition: 'Ok1' shows that it is the program's. -/
import Derived.Test.YtbcpapkjdphfpaaCore2
namespace Go.Proofs.Ytbcpapkjdphfpaa.Ir
open Go.Ab
-- (*vestibule/restrict.setter).note
def i47 : IFn := ⟨[],
  .reg true [⟨(some 6), .op (.mov (.t 0)), none⟩,
    ⟨(some 7), .op (.mov (.t 0)), none⟩,
    ⟨(some 8), .op (.nilChk (.t 7)), none⟩,
    ⟨(some 9), .op (.fAddr 13 (.t 8)), none⟩,
    ⟨(some 10), .op (.load1 (.t 9)), none⟩,
    ⟨(some 11), .op (.mov (.t 0)), none⟩,
    ⟨(some 12), .op (.nilChk (.t 11)), none⟩,
    ⟨(some 13), .op (.fAddr 14 (.t 12)), none⟩,
    ⟨(some 14), .op (.fAddr 0 (.t 13)), none⟩,
    ⟨(some 15), .op (.load1 (.t 14)), none⟩,
    ⟨(some 16), .op (.mov (.t 0)), none⟩,
    ⟨(some 17), .op (.nilChk (.t 16)), none⟩,
    ⟨(some 18), .op (.fAddr 14 (.t 17)), none⟩,
    ⟨(some 19), .op (.fAddr 1 (.t 18)), none⟩,
    ⟨(some 20), .op (.load1 (.t 19)), none⟩,
    ⟨(some 21), .op (.mov (.t 1)), none⟩,
    ⟨(some 22), .op (.mov (.t 2)), none⟩,
    ⟨(some 23), .op (.mov (.t 2)), none⟩,
    ⟨(some 24), .op (.len true (.t 23)), none⟩,
    ⟨(some 25), .op (.min (.t 24) (.c (.i .i64 60))), none⟩,
    ⟨(some 26), .op (.slcStr (.t 22) none (some (.t 25))), none⟩,
    ⟨(some 27), .op (.build [.s [], .i .i64 0, .i .i64 0, .s []] [(0, 1, (.t 15)), (1, 1, (.t 20)), (2, 1, (.t 21)), (3, 1, (.t 26))]), none⟩,
    ⟨(some 28), .op (.buildS 1 [.s [], .i .i64 0, .i .i64 0, .s []] [(0, 4, (.t 27))]), none⟩,
    ⟨(some 29), .op (.app 4 48 true (.t 10) (.t 28)), none⟩,
    ⟨(some 30), .op (.nilChk (.t 6)), none⟩,
    ⟨(some 31), .op (.fAddr 13 (.t 30)), none⟩,
    ⟨none, .op (.store 1 (.t 31) (.t 29)), none⟩]⟩
-- vestibule/restrict.with[int]
def i48 : IFn := ⟨[.tmp 6],
  .seq (.reg false [⟨(some 4), .op (.box (.t 1)), none⟩,
    ⟨(some 6), .op (.mov (.c (.nils))), none⟩])
  (.seq (.reg false [⟨(some 9), .op (.mov (.t 0)), none⟩,
    ⟨(some 10), .callF 41 [(.t 9)], none⟩,
    ⟨(some 11), .op (.mkF 57 [] [(.t 4)]), none⟩,
    ⟨(some 12), .callF 56 [(.t 10), (.t 11)], none⟩,
    ⟨(some 0), .op (.mov (.t 12)), none⟩])
  (.seq (.seq (.reg false [⟨(some 13), .op (.mov (.t 2)), none⟩,
    ⟨(some 14), .op (.un .not (.t 13)), none⟩])
  (.cond (.t 14) (.seq (.reg false [⟨(some 15), .op (.mov (.t 0)), none⟩,
    ⟨(some 6), .op (.mov (.t 15)), none⟩])
  (.ret)) (.skip)))
  (.seq (.reg false [⟨(some 17), .op (.mov (.t 0)), none⟩,
    ⟨(some 18), .op (.load1 (.t 4)), none⟩,
    ⟨(some 19), .callF 58 [(.t 17), (.t 18)], none⟩,
    ⟨(some 16), .op (.mov (.t 19)), none⟩,
    ⟨(some 20), .op (.ext (.t 16) 0), none⟩,
    ⟨(some 21), .op (.ext (.t 16) 1), none⟩,
    ⟨(some 7), .op (.mov (.t 20)), none⟩,
    ⟨(some 8), .op (.mov (.t 21)), none⟩])
  (.seq (.reg false [⟨(some 22), .op (.mov (.t 0)), none⟩,
    ⟨(some 23), .op (.mov (.t 7)), none⟩,
    ⟨(some 24), .op (.load1 (.t 4)), none⟩,
    ⟨(some 25), .op (.buildS 1 [.i .i64 0] [(0, 1, (.t 24))]), none⟩,
    ⟨(some 26), .callF 59 [(.t 22), (.t 23), (.t 25)], none⟩,
    ⟨(some 6), .op (.mov (.t 26)), none⟩])
  (.ret)))))⟩
-- vestibule/names.Family
def i49 : IFn := ⟨[.tmp 2, .tmp 3],
  .seq (.reg false [⟨(some 2), .op (.mov (.c (.i .u32 0))), none⟩,
    ⟨(some 3), .op (.mov (.c (.i .i64 0))), none⟩])
  (.seq (.reg false [⟨(some 5), .callF 32 [], none⟩,
    ⟨(some 4), .op (.alloc [.s [], .i .u32 0, .s [], .i .u32 0, .s [], .i .u32 0, .s [], .i .u32 0, .s [], .i .u32 0, .s [], .i .u32 0, .s [], .i .u32 0, .s [], .i .u32 0]), none⟩,
    ⟨none, .op (.store 16 (.t 4) (.t 5)), none⟩])
  (.seq (.reg false [⟨(some 6), .op (.slcA 8 2 (.t 4) none none none), none⟩,
    ⟨(some 7), .op (.mov (.t 0)), none⟩,
    ⟨(some 8), .callF 60 [(.t 6), (.t 7), (.c (.i .i64 180))], none⟩,
    ⟨(some 9), .op (.ext (.t 8) 0), none⟩,
    ⟨(some 10), .op (.ext (.t 8) 1), none⟩,
    ⟨(some 2), .op (.mov (.t 9)), none⟩,
    ⟨(some 3), .op (.mov (.t 10)), none⟩])
  (.ret)))⟩
-- vestibule/restrict.with[uint32]
def i50 : IFn := ⟨[.tmp 6],
  .seq (.reg false [⟨(some 4), .op (.box (.t 1)), none⟩,
    ⟨(some 6), .op (.mov (.c (.nils))), none⟩])
  (.seq (.reg false [⟨(some 9), .op (.mov (.t 0)), none⟩,
    ⟨(some 10), .callF 42 [(.t 9)], none⟩,
    ⟨(some 11), .op (.mkF 62 [] [(.t 4)]), none⟩,
    ⟨(some 12), .callF 61 [(.t 10), (.t 11)], none⟩,
    ⟨(some 0), .op (.mov (.t 12)), none⟩])
  (.seq (.seq (.reg false [⟨(some 13), .op (.mov (.t 2)), none⟩,
    ⟨(some 14), .op (.un .not (.t 13)), none⟩])
  (.cond (.t 14) (.seq (.reg false [⟨(some 15), .op (.mov (.t 0)), none⟩,
    ⟨(some 6), .op (.mov (.t 15)), none⟩])
  (.ret)) (.skip)))
  (.seq (.reg false [⟨(some 17), .op (.mov (.t 0)), none⟩,
    ⟨(some 18), .op (.load1 (.t 4)), none⟩,
    ⟨(some 19), .callF 63 [(.t 17), (.t 18)], none⟩,
    ⟨(some 16), .op (.mov (.t 19)), none⟩,
    ⟨(some 20), .op (.ext (.t 16) 0), none⟩,
    ⟨(some 21), .op (.ext (.t 16) 1), none⟩,
    ⟨(some 7), .op (.mov (.t 20)), none⟩,
    ⟨(some 8), .op (.mov (.t 21)), none⟩])
  (.seq (.reg false [⟨(some 22), .op (.mov (.t 0)), none⟩,
    ⟨(some 23), .op (.mov (.t 7)), none⟩,
    ⟨(some 24), .op (.load1 (.t 4)), none⟩,
    ⟨(some 25), .op (.buildS 1 [.i .u32 0] [(0, 1, (.t 24))]), none⟩,
    ⟨(some 26), .callF 64 [(.t 22), (.t 23), (.t 25)], none⟩,
    ⟨(some 6), .op (.mov (.t 26)), none⟩])
  (.ret)))))⟩
-- vestibule/names.Space
def i51 : IFn := ⟨[.tmp 2, .tmp 3],
  .seq (.reg false [⟨(some 2), .op (.mov (.c (.i .u64 0))), none⟩,
    ⟨(some 3), .op (.mov (.c (.i .i64 0))), none⟩])
  (.seq (.reg false [⟨(some 5), .callF 31 [], none⟩,
    ⟨(some 4), .op (.alloc [.s [], .i .u64 0, .s [], .i .u64 0, .s [], .i .u64 0, .s [], .i .u64 0, .s [], .i .u64 0, .s [], .i .u64 0, .s [], .i .u64 0, .s [], .i .u64 0]), none⟩,
    ⟨none, .op (.store 16 (.t 4) (.t 5)), none⟩])
  (.seq (.reg false [⟨(some 6), .op (.slcA 8 2 (.t 4) none none none), none⟩,
    ⟨(some 7), .op (.mov (.t 0)), none⟩,
    ⟨(some 8), .callF 65 [(.t 6), (.t 7), (.c (.i .i64 181))], none⟩,
    ⟨(some 9), .op (.ext (.t 8) 0), none⟩,
    ⟨(some 10), .op (.ext (.t 8) 1), none⟩,
    ⟨(some 2), .op (.mov (.t 9)), none⟩,
    ⟨(some 3), .op (.mov (.t 10)), none⟩])
  (.ret)))⟩
-- (*vestibule/restrict.setter).says
def i52 : IFn := ⟨[],
  .seq (.seq (.reg false [⟨(some 8), .op (.mov (.t 1)), none⟩,
    ⟨(some 9), .op (.bin .eql (.t 8) (.c (.s []))), none⟩])
  (.cond (.t 9) (.seq (.reg false [⟨(some 10), .op (.mov (.t 2)), none⟩,
    ⟨(some 11), .op (.nilChk (.t 10)), none⟩,
    ⟨none, .op (.store 1 (.t 11) (.c (.b false))), none⟩])
  (.ret)) (.skip)))
  (.seq (.reg false [⟨(some 13), .op (.mov (.t 1)), none⟩,
    ⟨(some 14), .callF 15 [(.t 13)], none⟩,
    ⟨(some 12), .op (.mov (.t 14)), none⟩,
    ⟨(some 15), .op (.ext (.t 12) 0), none⟩,
    ⟨(some 16), .op (.ext (.t 12) 1), none⟩,
    ⟨(some 6), .op (.mov (.t 15)), none⟩,
    ⟨(some 7), .op (.mov (.t 16)), none⟩])
  (.seq (.seq (.reg false [⟨(some 17), .op (.mov (.t 7)), none⟩,
    ⟨(some 18), .op (.bin .neq (.t 17) (.c (.i .i64 0))), none⟩])
  (.cond (.t 18) (.seq (.reg false [⟨(some 19), .op (.mov (.t 0)), none⟩,
    ⟨(some 20), .op (.mov (.t 7)), none⟩,
    ⟨(some 21), .op (.mov (.t 1)), none⟩,
    ⟨(some 22), .callF 47 [(.t 19), (.t 20), (.t 21)], none⟩])
  (.ret)) (.skip)))
  (.reg false [⟨(some 23), .op (.mov (.t 2)), none⟩,
    ⟨(some 24), .op (.mov (.t 6)), none⟩,
    ⟨(some 25), .op (.nilChk (.t 23)), none⟩,
    ⟨none, .op (.store 1 (.t 25) (.t 24)), none⟩])))⟩
-- internal/stringslite.HasPrefix
def i53 : IFn := ⟨[.tmp 4],
  .seq (.reg false [⟨(some 4), .op (.mov (.c (.b false))), none⟩])
  (.seq (.reg false [⟨(some 5), .op (.mov (.t 0)), none⟩,
    ⟨(some 6), .op (.len true (.t 5)), none⟩,
    ⟨(some 7), .op (.mov (.t 1)), none⟩,
    ⟨(some 8), .op (.len true (.t 7)), none⟩,
    ⟨(some 9), .op (.bin .geq (.t 6) (.t 8)), none⟩,
    ⟨(some 10), .op (.mov (.t 9)), none⟩,
    ⟨(some 11), .op (.mov (.t 0)), (some (10, true))⟩,
    ⟨(some 12), .op (.mov (.t 1)), (some (10, true))⟩,
    ⟨(some 13), .op (.len true (.t 12)), (some (10, true))⟩,
    ⟨(some 14), .op (.slcStr (.t 11) none (some (.t 13))), (some (10, true))⟩,
    ⟨(some 15), .op (.mov (.t 1)), (some (10, true))⟩,
    ⟨(some 16), .op (.bin .eql (.t 14) (.t 15)), (some (10, true))⟩,
    ⟨(some 17), .op (.pick (.t 10) (.t 16) (.c (.b false))), none⟩,
    ⟨(some 4), .op (.mov (.t 17)), none⟩])
  (.ret))⟩
-- vestibule/arch.find
def i54 : IFn := ⟨[.tmp 2],
  .seq (.reg false [⟨(some 2), .op (.mov (.c (.i .i64 0))), none⟩])
  (.seq (.reg false [⟨(some 4), .callF 66 [], none⟩,
    ⟨(some 3), .op (.alloc [.s [], .i .u32 0, .s [], .i .u32 0, .s [], .i .u32 0, .s [], .i .u32 0, .s [], .i .u32 0, .s [], .i .u32 0]), none⟩,
    ⟨none, .op (.store 12 (.t 3) (.t 4)), none⟩])
  (.seq (.reg false [⟨(some 5), .op (.slcA 6 2 (.t 3) none none none), none⟩,
    ⟨(some 6), .op (.mov (.t 0)), none⟩,
    ⟨(some 7), .callF 67 [(.t 5), (.t 6)], none⟩,
    ⟨(some 2), .op (.mov (.t 7)), none⟩])
  (.ret)))⟩
-- vestibule/arch.Parse$1
def i55 : IFn := ⟨[.tmp 3],
  .seq (.reg false [⟨(some 2), .op (.box (.t 0)), none⟩,
    ⟨(some 3), .op (.mov (.c (.b false))), none⟩])
  (.seq (.reg false [⟨(some 4), .op (.fAddr 0 (.t 2)), none⟩,
    ⟨(some 5), .op (.load1 (.t 4)), none⟩,
    ⟨(some 6), .op (.load1 (.t 1)), none⟩,
    ⟨(some 7), .op (.bin .eql (.t 5) (.t 6)), none⟩,
    ⟨(some 3), .op (.mov (.t 7)), none⟩])
  (.ret))⟩
-- slices.DeleteFunc[[]int,int]
def i56 : IFn := ⟨[.tmp 4],
  .seq (.reg false [⟨(some 4), .op (.mov (.c (.nils))), none⟩])
  (.seq (.reg false [⟨(some 8), .op (.mov (.t 0)), none⟩,
    ⟨(some 9), .op (.mov (.t 1)), none⟩,
    ⟨(some 10), .callF 68 [(.t 8), (.t 9)], none⟩,
    ⟨(some 5), .op (.mov (.t 10)), none⟩])
  (.seq (.seq (.reg false [⟨(some 11), .op (.mov (.t 5)), none⟩,
    ⟨(some 12), .op (.bin .eql (.t 11) (.c (.i .i64 (-1)))), none⟩])
  (.cond (.t 12) (.seq (.reg false [⟨(some 13), .op (.mov (.t 0)), none⟩,
    ⟨(some 4), .op (.mov (.t 13)), none⟩])
  (.ret)) (.skip)))
  (.seq (.seq (.reg false [⟨(some 14), .op (.mov (.t 5)), none⟩,
    ⟨(some 15), .op (.bin .add (.t 14) (.c (.i .i64 1))), none⟩,
    ⟨(some 6), .op (.mov (.t 15)), none⟩])
  (.blk 0 (.loop (.seq (.seq (.reg false [⟨(some 16), .op (.mov (.t 6)), none⟩,
    ⟨(some 17), .op (.mov (.t 0)), none⟩,
    ⟨(some 18), .op (.len false (.t 17)), none⟩,
    ⟨(some 19), .op (.bin .lss (.t 16) (.t 18)), none⟩])
  (.cond (.t 19) (.skip) (.exit 0)))
  (.seq (.blk 1 (.seq (.reg false [⟨(some 22), .op (.mov (.t 0)), none⟩,
    ⟨(some 23), .op (.mov (.t 6)), none⟩,
    ⟨(some 24), .op (.iAddrS 1 (.t 22) (.t 23)), none⟩,
    ⟨(some 25), .op (.load1 (.t 24)), none⟩,
    ⟨(some 7), .op (.mov (.t 25)), none⟩])
  (.seq (.reg false [⟨(some 26), .op (.mov (.t 1)), none⟩,
    ⟨(some 27), .op (.mov (.t 7)), none⟩,
    ⟨(some 28), .callV (.t 26) [(.t 27)], none⟩,
    ⟨(some 29), .op (.un .not (.t 28)), none⟩])
  (.cond (.t 29) (.seq (.reg false [⟨(some 30), .op (.mov (.t 0)), none⟩,
    ⟨(some 31), .op (.mov (.t 5)), none⟩,
    ⟨(some 32), .op (.mov (.t 7)), none⟩,
    ⟨(some 33), .op (.iAddrS 1 (.t 30) (.t 31)), none⟩,
    ⟨none, .op (.store 1 (.t 33) (.t 32)), none⟩])
  (.reg false [⟨(some 34), .op (.mov (.t 5)), none⟩,
    ⟨(some 35), .op (.bin .add (.t 34) (.c (.i .i64 1))), none⟩,
    ⟨(some 5), .op (.mov (.t 35)), none⟩])) (.skip)))))
  (.reg false [⟨(some 20), .op (.mov (.t 6)), none⟩,
    ⟨(some 21), .op (.bin .add (.t 20) (.c (.i .i64 1))), none⟩,
    ⟨(some 6), .op (.mov (.t 21)), none⟩]))))))
  (.seq (.reg false [⟨(some 36), .op (.mov (.t 0)), none⟩,
    ⟨(some 37), .op (.mov (.t 5)), none⟩,
    ⟨(some 38), .op (.slcS 1 (.t 36) (some (.t 37)) none none), none⟩,
    ⟨none, .op (.clear [.i .i64 0] (.t 38)), none⟩])
  (.seq (.reg false [⟨(some 39), .op (.mov (.t 0)), none⟩,
    ⟨(some 40), .op (.mov (.t 5)), none⟩,
    ⟨(some 41), .op (.slcS 1 (.t 39) none (some (.t 40)) none), none⟩,
    ⟨(some 4), .op (.mov (.t 41)), none⟩])
  (.ret))))))⟩
-- vestibule/restrict.with[int]$1
def i57 : IFn := ⟨[.tmp 3],
  .seq (.reg false [⟨(some 3), .op (.mov (.c (.b false))), none⟩])
  (.seq (.reg false [⟨(some 4), .op (.mov (.t 0)), none⟩,
    ⟨(some 5), .op (.load1 (.t 1)), none⟩,
    ⟨(some 6), .op (.bin .eql (.t 4) (.t 5)), none⟩,
    ⟨(some 3), .op (.mov (.t 6)), none⟩])
  (.ret))⟩
-- slices.BinarySearch[[]int,int]
def i58 : IFn := ⟨[.tmp 4, .tmp 5],
  .seq (.reg false [⟨(some 4), .op (.mov (.c (.i .i64 0))), none⟩,
    ⟨(some 5), .op (.mov (.c (.b false))), none⟩])
  (.seq (.reg false [⟨(some 10), .op (.mov (.t 0)), none⟩,
    ⟨(some 11), .op (.len false (.t 10)), none⟩,
    ⟨(some 6), .op (.mov (.t 11)), none⟩])
  (.seq (.reg false [⟨(some 12), .op (.mov (.t 6)), none⟩,
    ⟨(some 7), .op (.mov (.c (.i .i64 0))), none⟩,
    ⟨(some 8), .op (.mov (.t 12)), none⟩])
  (.seq (.blk 0 (.loop (.seq (.seq (.reg false [⟨(some 13), .op (.mov (.t 7)), none⟩,
    ⟨(some 14), .op (.mov (.t 8)), none⟩,
    ⟨(some 15), .op (.bin .lss (.t 13) (.t 14)), none⟩])
  (.cond (.t 15) (.skip) (.exit 0)))
  (.blk 1 (.seq (.reg false [⟨(some 16), .op (.mov (.t 7)), none⟩,
    ⟨(some 17), .op (.mov (.t 8)), none⟩,
    ⟨(some 18), .op (.bin .add (.t 16) (.t 17)), none⟩,
    ⟨(some 19), .op (.cvInt .u64 (.t 18)), none⟩,
    ⟨(some 20), .op (.bin .shr (.t 19) (.c (.i .u64 1))), none⟩,
    ⟨(some 21), .op (.cvInt .i64 (.t 20)), none⟩,
    ⟨(some 9), .op (.mov (.t 21)), none⟩])
  (.seq (.reg false [⟨(some 22), .op (.mov (.t 0)), none⟩,
    ⟨(some 23), .op (.mov (.t 9)), none⟩,
    ⟨(some 24), .op (.iAddrS 1 (.t 22) (.t 23)), none⟩,
    ⟨(some 25), .op (.load1 (.t 24)), none⟩,
    ⟨(some 26), .op (.mov (.t 1)), none⟩,
    ⟨(some 27), .callF 69 [(.t 25), (.t 26)], none⟩])
  (.cond (.t 27) (.reg false [⟨(some 28), .op (.mov (.t 9)), none⟩,
    ⟨(some 29), .op (.bin .add (.t 28) (.c (.i .i64 1))), none⟩,
    ⟨(some 7), .op (.mov (.t 29)), none⟩]) (.reg false [⟨(some 30), .op (.mov (.t 9)), none⟩,
    ⟨(some 8), .op (.mov (.t 30)), none⟩]))))))))
  (.seq (.reg false [⟨(some 31), .op (.mov (.t 7)), none⟩,
    ⟨(some 32), .op (.mov (.t 7)), none⟩,
    ⟨(some 33), .op (.mov (.t 6)), none⟩,
    ⟨(some 34), .op (.bin .lss (.t 32) (.t 33)), none⟩,
    ⟨(some 35), .op (.mov (.t 34)), none⟩,
    ⟨(some 36), .op (.mov (.t 0)), (some (35, true))⟩,
    ⟨(some 37), .op (.mov (.t 7)), (some (35, true))⟩,
    ⟨(some 38), .op (.iAddrS 1 (.t 36) (.t 37)), (some (35, true))⟩,
    ⟨(some 39), .op (.load1 (.t 38)), (some (35, true))⟩,
    ⟨(some 40), .op (.mov (.t 1)), (some (35, true))⟩,
    ⟨(some 41), .op (.bin .eql (.t 39) (.t 40)), (some (35, true))⟩,
    ⟨(some 42), .op (.mov (.t 41)), (some (35, true))⟩,
    ⟨(some 43), .op (.mov (.t 0)), (some (42, false))⟩,
    ⟨(some 44), .op (.mov (.t 7)), (some (42, false))⟩,
    ⟨(some 45), .op (.iAddrS 1 (.t 43) (.t 44)), (some (42, false))⟩,
    ⟨(some 46), .op (.load1 (.t 45)), (some (42, false))⟩,
    ⟨(some 47), .callF 70 [(.t 46)], (some (42, false))⟩,
    ⟨(some 48), .op (.mov (.t 47)), (some (42, false))⟩,
    ⟨(some 49), .op (.mov (.t 1)), (some (48, true))⟩,
    ⟨(some 50), .callF 70 [(.t 49)], (some (48, true))⟩,
    ⟨(some 51), .op (.pick (.t 48) (.t 50) (.c (.b false))), (some (42, false))⟩,
    ⟨(some 52), .op (.pick (.t 42) (.c (.b true)) (.t 51)), (some (35, true))⟩,
    ⟨(some 53), .op (.pick (.t 35) (.t 52) (.c (.b false))), none⟩,
    ⟨(some 4), .op (.mov (.t 31)), none⟩,
    ⟨(some 5), .op (.mov (.t 53)), none⟩])
  (.ret)))))⟩
-- slices.Insert[[]int,int]
def i59 : IFn := ⟨[.tmp 6],
  .seq (.reg false [⟨(some 6), .op (.mov (.c (.nils))), none⟩])
  (.seq (.reg false [⟨(some 10), .op (.mov (.t 0)), none⟩,
    ⟨(some 11), .op (.mov (.t 1)), none⟩,
    ⟨(some 12), .op (.slcS 1 (.t 10) (some (.t 11)) none none), none⟩])
  (.seq (.reg false [⟨(some 13), .op (.mov (.t 2)), none⟩,
    ⟨(some 14), .op (.len false (.t 13)), none⟩,
    ⟨(some 7), .op (.mov (.t 14)), none⟩])
  (.seq (.seq (.reg false [⟨(some 15), .op (.mov (.t 7)), none⟩,
    ⟨(some 16), .op (.bin .eql (.t 15) (.c (.i .i64 0))), none⟩])
  (.cond (.t 16) (.seq (.reg false [⟨(some 17), .op (.mov (.t 0)), none⟩,
    ⟨(some 6), .op (.mov (.t 17)), none⟩])
  (.ret)) (.skip)))
  (.seq (.reg false [⟨(some 18), .op (.mov (.t 0)), none⟩,
    ⟨(some 19), .op (.len false (.t 18)), none⟩,
    ⟨(some 8), .op (.mov (.t 19)), none⟩])
  (.seq (.seq (.reg false [⟨(some 20), .op (.mov (.t 1)), none⟩,
    ⟨(some 21), .op (.mov (.t 8)), none⟩,
    ⟨(some 22), .op (.bin .eql (.t 20) (.t 21)), none⟩])
  (.cond (.t 22) (.seq (.reg false [⟨(some 23), .op (.mov (.t 0)), none⟩,
    ⟨(some 24), .op (.mov (.t 2)), none⟩,
    ⟨(some 25), .op (.app 1 8 false (.t 23) (.t 24)), none⟩,
    ⟨(some 6), .op (.mov (.t 25)), none⟩])
  (.ret)) (.skip)))
  (.seq (.seq (.reg false [⟨(some 26), .op (.mov (.t 8)), none⟩,
    ⟨(some 27), .op (.mov (.t 7)), none⟩,
    ⟨(some 28), .op (.bin .add (.t 26) (.t 27)), none⟩,
    ⟨(some 29), .op (.mov (.t 0)), none⟩,
    ⟨(some 30), .op (.no), none⟩,
    ⟨(some 31), .op (.bin .gtr (.t 28) (.t 30)), none⟩])
  (.cond (.t 31) (.seq (.reg false [⟨(some 32), .op (.mov (.t 0)), none⟩,
    ⟨(some 33), .op (.mov (.t 1)), none⟩,
    ⟨(some 34), .op (.slcS 1 (.t 32) none (some (.t 33)) none), none⟩,
    ⟨(some 35), .op (.mov (.t 8)), none⟩,
    ⟨(some 36), .op (.mov (.t 7)), none⟩,
    ⟨(some 37), .op (.bin .add (.t 35) (.t 36)), none⟩,
    ⟨(some 38), .op (.mov (.t 1)), none⟩,
    ⟨(some 39), .op (.bin .sub (.t 37) (.t 38)), none⟩,
    ⟨(some 40), .op (.no), none⟩,
    ⟨(some 9), .op (.mov (.t 40)), none⟩])
  (.seq (.reg false [⟨(some 41), .op (.mov (.t 9)), none⟩,
    ⟨(some 42), .op (.mov (.t 1)), none⟩,
    ⟨(some 43), .op (.slcS 1 (.t 41) (some (.t 42)) none none), none⟩,
    ⟨(some 44), .op (.mov (.t 2)), none⟩,
    ⟨(some 45), .op (.copy 1 (.t 43) (.t 44)), none⟩])
  (.seq (.reg true [⟨(some 46), .op (.mov (.t 9)), none⟩,
    ⟨(some 47), .op (.mov (.t 1)), none⟩,
    ⟨(some 48), .op (.mov (.t 7)), none⟩,
    ⟨(some 49), .op (.bin .add (.t 47) (.t 48)), none⟩,
    ⟨(some 50), .op (.slcS 1 (.t 46) (some (.t 49)) none none), none⟩,
    ⟨(some 51), .op (.mov (.t 0)), none⟩,
    ⟨(some 52), .op (.mov (.t 1)), none⟩,
    ⟨(some 53), .op (.slcS 1 (.t 51) (some (.t 52)) none none), none⟩,
    ⟨(some 54), .op (.copy 1 (.t 50) (.t 53)), none⟩])
  (.seq (.reg false [⟨(some 55), .op (.mov (.t 9)), none⟩,
    ⟨(some 6), .op (.mov (.t 55)), none⟩])
  (.ret))))) (.skip)))
  (.seq (.reg false [⟨(some 56), .op (.mov (.t 0)), none⟩,
    ⟨(some 57), .op (.mov (.t 8)), none⟩,
    ⟨(some 58), .op (.mov (.t 7)), none⟩,
    ⟨(some 59), .op (.bin .add (.t 57) (.t 58)), none⟩,
    ⟨(some 60), .op (.slcS 1 (.t 56) none (some (.t 59)) none), none⟩,
    ⟨(some 0), .op (.mov (.t 60)), none⟩])
  (.seq (.seq (.reg false [⟨(some 61), .op (.mov (.t 2)), none⟩,
    ⟨(some 62), .op (.mov (.t 0)), none⟩,
    ⟨(some 63), .op (.mov (.t 1)), none⟩,
    ⟨(some 64), .op (.mov (.t 7)), none⟩,
    ⟨(some 65), .op (.bin .add (.t 63) (.t 64)), none⟩,
    ⟨(some 66), .op (.slcS 1 (.t 62) (some (.t 65)) none none), none⟩,
    ⟨(some 67), .callF 71 [(.t 61), (.t 66)], none⟩,
    ⟨(some 68), .op (.un .not (.t 67)), none⟩])
  (.cond (.t 68) (.seq (.reg true [⟨(some 69), .op (.mov (.t 0)), none⟩,
    ⟨(some 70), .op (.mov (.t 1)), none⟩,
    ⟨(some 71), .op (.mov (.t 7)), none⟩,
    ⟨(some 72), .op (.bin .add (.t 70) (.t 71)), none⟩,
    ⟨(some 73), .op (.slcS 1 (.t 69) (some (.t 72)) none none), none⟩,
    ⟨(some 74), .op (.mov (.t 0)), none⟩,
    ⟨(some 75), .op (.mov (.t 1)), none⟩,
    ⟨(some 76), .op (.slcS 1 (.t 74) (some (.t 75)) none none), none⟩,
    ⟨(some 77), .op (.copy 1 (.t 73) (.t 76)), none⟩])
  (.seq (.reg false [⟨(some 78), .op (.mov (.t 0)), none⟩,
    ⟨(some 79), .op (.mov (.t 1)), none⟩,
    ⟨(some 80), .op (.slcS 1 (.t 78) (some (.t 79)) none none), none⟩,
    ⟨(some 81), .op (.mov (.t 2)), none⟩,
    ⟨(some 82), .op (.copy 1 (.t 80) (.t 81)), none⟩])
  (.seq (.reg false [⟨(some 83), .op (.mov (.t 0)), none⟩,
    ⟨(some 6), .op (.mov (.t 83)), none⟩])
  (.ret)))) (.skip)))
  (.seq (.reg false [⟨(some 84), .op (.mov (.t 0)), none⟩,
    ⟨(some 85), .op (.mov (.t 8)), none⟩,
    ⟨(some 86), .op (.slcS 1 (.t 84) (some (.t 85)) none none), none⟩,
    ⟨(some 87), .op (.mov (.t 2)), none⟩,
    ⟨(some 88), .op (.copy 1 (.t 86) (.t 87)), none⟩])
  (.seq (.reg false [⟨(some 89), .op (.mov (.t 0)), none⟩,
    ⟨(some 90), .op (.mov (.t 1)), none⟩,
    ⟨(some 91), .op (.slcS 1 (.t 89) (some (.t 90)) none none), none⟩,
    ⟨(some 92), .op (.mov (.t 7)), none⟩,
    ⟨(some 93), .callF 72 [(.t 91), (.t 92)], none⟩])
  (.seq (.reg false [⟨(some 94), .op (.mov (.t 0)), none⟩,
    ⟨(some 6), .op (.mov (.t 94)), none⟩])
  (.ret))))))))))))⟩
-- vestibule/names.find[uint32]
def i60 : IFn := ⟨[.tmp 6, .tmp 7],
  .seq (.reg false [⟨(some 6), .op (.mov (.c (.i .u32 0))), none⟩,
    ⟨(some 7), .op (.mov (.c (.i .i64 0))), none⟩])
  (.seq (.seq (.reg false [⟨(some 11), .op (.mov (.t 0)), none⟩,
    ⟨(some 12), .op (.len false (.t 11)), none⟩,
    ⟨(some 13), .op (.mov (.c (.i .i64 0))), none⟩])
  (.blk 0 (.loop (.seq (.reg false [⟨(some 14), .op (.bin .lss (.t 13) (.t 12)), none⟩])
  (.seq (.cond (.t 14) (.skip) (.exit 0))
  (.seq (.blk 1 (.seq (.reg false [⟨(some 15), .op (.iAddrS 2 (.t 11) (.t 13)), none⟩,
    ⟨(some 16), .op (.loadN 2 (.t 15)), none⟩,
    ⟨(some 9), .op (.alloc [.s [], .i .u32 0]), none⟩,
    ⟨none, .op (.store 2 (.t 9) (.t 16)), none⟩])
  (.seq (.reg false [⟨(some 17), .op (.fAddr 0 (.t 9)), none⟩,
    ⟨(some 18), .op (.load1 (.t 17)), none⟩,
    ⟨(some 19), .op (.mov (.t 1)), none⟩,
    ⟨(some 20), .op (.bin .eql (.t 18) (.t 19)), none⟩])
  (.cond (.t 20) (.seq (.reg false [⟨(some 21), .op (.fAddr 1 (.t 9)), none⟩,
    ⟨(some 22), .op (.load1 (.t 21)), none⟩,
    ⟨(some 6), .op (.mov (.t 22)), none⟩,
    ⟨(some 7), .op (.mov (.c (.i .i64 0))), none⟩])
  (.ret)) (.skip)))))
  (.reg false [⟨(some 23), .op (.bin .add (.t 13) (.c (.i .i64 1))), none⟩,
    ⟨(some 13), .op (.mov (.t 23)), none⟩])))))))
  (.seq (.reg false [⟨(some 10), .op (.mov (.c (.i .u32 0))), none⟩])
  (.seq (.reg false [⟨(some 24), .op (.mov (.t 10)), none⟩,
    ⟨(some 25), .op (.mov (.t 2)), none⟩,
    ⟨(some 6), .op (.mov (.t 24)), none⟩,
    ⟨(some 7), .op (.mov (.t 25)), none⟩])
  (.ret))))⟩
-- slices.DeleteFunc[[]uint32,uint32]
def i61 : IFn := ⟨[.tmp 4],
  .seq (.reg false [⟨(some 4), .op (.mov (.c (.nils))), none⟩])
  (.seq (.reg false [⟨(some 8), .op (.mov (.t 0)), none⟩,
    ⟨(some 9), .op (.mov (.t 1)), none⟩,
    ⟨(some 10), .callF 73 [(.t 8), (.t 9)], none⟩,
    ⟨(some 5), .op (.mov (.t 10)), none⟩])
  (.seq (.seq (.reg false [⟨(some 11), .op (.mov (.t 5)), none⟩,
    ⟨(some 12), .op (.bin .eql (.t 11) (.c (.i .i64 (-1)))), none⟩])
  (.cond (.t 12) (.seq (.reg false [⟨(some 13), .op (.mov (.t 0)), none⟩,
    ⟨(some 4), .op (.mov (.t 13)), none⟩])
  (.ret)) (.skip)))
  (.seq (.seq (.reg false [⟨(some 14), .op (.mov (.t 5)), none⟩,
    ⟨(some 15), .op (.bin .add (.t 14) (.c (.i .i64 1))), none⟩,
    ⟨(some 6), .op (.mov (.t 15)), none⟩])
  (.blk 0 (.loop (.seq (.seq (.reg false [⟨(some 16), .op (.mov (.t 6)), none⟩,
    ⟨(some 17), .op (.mov (.t 0)), none⟩,
    ⟨(some 18), .op (.len false (.t 17)), none⟩,
    ⟨(some 19), .op (.bin .lss (.t 16) (.t 18)), none⟩])
  (.cond (.t 19) (.skip) (.exit 0)))
  (.seq (.blk 1 (.seq (.reg false [⟨(some 22), .op (.mov (.t 0)), none⟩,
    ⟨(some 23), .op (.mov (.t 6)), none⟩,
    ⟨(some 24), .op (.iAddrS 1 (.t 22) (.t 23)), none⟩,
    ⟨(some 25), .op (.load1 (.t 24)), none⟩,
    ⟨(some 7), .op (.mov (.t 25)), none⟩])
  (.seq (.reg false [⟨(some 26), .op (.mov (.t 1)), none⟩,
    ⟨(some 27), .op (.mov (.t 7)), none⟩,
    ⟨(some 28), .callV (.t 26) [(.t 27)], none⟩,
    ⟨(some 29), .op (.un .not (.t 28)), none⟩])
  (.cond (.t 29) (.seq (.reg false [⟨(some 30), .op (.mov (.t 0)), none⟩,
    ⟨(some 31), .op (.mov (.t 5)), none⟩,
    ⟨(some 32), .op (.mov (.t 7)), none⟩,
    ⟨(some 33), .op (.iAddrS 1 (.t 30) (.t 31)), none⟩,
    ⟨none, .op (.store 1 (.t 33) (.t 32)), none⟩])
  (.reg false [⟨(some 34), .op (.mov (.t 5)), none⟩,
    ⟨(some 35), .op (.bin .add (.t 34) (.c (.i .i64 1))), none⟩,
    ⟨(some 5), .op (.mov (.t 35)), none⟩])) (.skip)))))
  (.reg false [⟨(some 20), .op (.mov (.t 6)), none⟩,
    ⟨(some 21), .op (.bin .add (.t 20) (.c (.i .i64 1))), none⟩,
    ⟨(some 6), .op (.mov (.t 21)), none⟩]))))))
  (.seq (.reg false [⟨(some 36), .op (.mov (.t 0)), none⟩,
    ⟨(some 37), .op (.mov (.t 5)), none⟩,
    ⟨(some 38), .op (.slcS 1 (.t 36) (some (.t 37)) none none), none⟩,
    ⟨none, .op (.clear [.i .u32 0] (.t 38)), none⟩])
  (.seq (.reg false [⟨(some 39), .op (.mov (.t 0)), none⟩,
    ⟨(some 40), .op (.mov (.t 5)), none⟩,
    ⟨(some 41), .op (.slcS 1 (.t 39) none (some (.t 40)) none), none⟩,
    ⟨(some 4), .op (.mov (.t 41)), none⟩])
  (.ret))))))⟩
-- vestibule/restrict.with[uint32]$1
def i62 : IFn := ⟨[.tmp 3],
  .seq (.reg false [⟨(some 3), .op (.mov (.c (.b false))), none⟩])
  (.seq (.reg false [⟨(some 4), .op (.mov (.t 0)), none⟩,
    ⟨(some 5), .op (.load1 (.t 1)), none⟩,
    ⟨(some 6), .op (.bin .eql (.t 4) (.t 5)), none⟩,
    ⟨(some 3), .op (.mov (.t 6)), none⟩])
  (.ret))⟩
-- slices.BinarySearch[[]uint32,uint32]
def i63 : IFn := ⟨[.tmp 4, .tmp 5],
  .seq (.reg false [⟨(some 4), .op (.mov (.c (.i .i64 0))), none⟩,
    ⟨(some 5), .op (.mov (.c (.b false))), none⟩])
  (.seq (.reg false [⟨(some 10), .op (.mov (.t 0)), none⟩,
    ⟨(some 11), .op (.len false (.t 10)), none⟩,
    ⟨(some 6), .op (.mov (.t 11)), none⟩])
  (.seq (.reg false [⟨(some 12), .op (.mov (.t 6)), none⟩,
    ⟨(some 7), .op (.mov (.c (.i .i64 0))), none⟩,
    ⟨(some 8), .op (.mov (.t 12)), none⟩])
  (.seq (.blk 0 (.loop (.seq (.seq (.reg false [⟨(some 13), .op (.mov (.t 7)), none⟩,
    ⟨(some 14), .op (.mov (.t 8)), none⟩,
    ⟨(some 15), .op (.bin .lss (.t 13) (.t 14)), none⟩])
  (.cond (.t 15) (.skip) (.exit 0)))
  (.blk 1 (.seq (.reg false [⟨(some 16), .op (.mov (.t 7)), none⟩,
    ⟨(some 17), .op (.mov (.t 8)), none⟩,
    ⟨(some 18), .op (.bin .add (.t 16) (.t 17)), none⟩,
    ⟨(some 19), .op (.cvInt .u64 (.t 18)), none⟩,
    ⟨(some 20), .op (.bin .shr (.t 19) (.c (.i .u64 1))), none⟩,
    ⟨(some 21), .op (.cvInt .i64 (.t 20)), none⟩,
    ⟨(some 9), .op (.mov (.t 21)), none⟩])
  (.seq (.reg false [⟨(some 22), .op (.mov (.t 0)), none⟩,
    ⟨(some 23), .op (.mov (.t 9)), none⟩,
    ⟨(some 24), .op (.iAddrS 1 (.t 22) (.t 23)), none⟩,
    ⟨(some 25), .op (.load1 (.t 24)), none⟩,
    ⟨(some 26), .op (.mov (.t 1)), none⟩,
    ⟨(some 27), .callF 74 [(.t 25), (.t 26)], none⟩])
  (.cond (.t 27) (.reg false [⟨(some 28), .op (.mov (.t 9)), none⟩,
    ⟨(some 29), .op (.bin .add (.t 28) (.c (.i .i64 1))), none⟩,
    ⟨(some 7), .op (.mov (.t 29)), none⟩]) (.reg false [⟨(some 30), .op (.mov (.t 9)), none⟩,
    ⟨(some 8), .op (.mov (.t 30)), none⟩]))))))))
  (.seq (.reg false [⟨(some 31), .op (.mov (.t 7)), none⟩,
    ⟨(some 32), .op (.mov (.t 7)), none⟩,
    ⟨(some 33), .op (.mov (.t 6)), none⟩,
    ⟨(some 34), .op (.bin .lss (.t 32) (.t 33)), none⟩,
    ⟨(some 35), .op (.mov (.t 34)), none⟩,
    ⟨(some 36), .op (.mov (.t 0)), (some (35, true))⟩,
    ⟨(some 37), .op (.mov (.t 7)), (some (35, true))⟩,
    ⟨(some 38), .op (.iAddrS 1 (.t 36) (.t 37)), (some (35, true))⟩,
    ⟨(some 39), .op (.load1 (.t 38)), (some (35, true))⟩,
    ⟨(some 40), .op (.mov (.t 1)), (some (35, true))⟩,
    ⟨(some 41), .op (.bin .eql (.t 39) (.t 40)), (some (35, true))⟩,
    ⟨(some 42), .op (.mov (.t 41)), (some (35, true))⟩,
    ⟨(some 43), .op (.mov (.t 0)), (some (42, false))⟩,
    ⟨(some 44), .op (.mov (.t 7)), (some (42, false))⟩,
    ⟨(some 45), .op (.iAddrS 1 (.t 43) (.t 44)), (some (42, false))⟩,
    ⟨(some 46), .op (.load1 (.t 45)), (some (42, false))⟩,
    ⟨(some 47), .callF 75 [(.t 46)], (some (42, false))⟩,
    ⟨(some 48), .op (.mov (.t 47)), (some (42, false))⟩,
    ⟨(some 49), .op (.mov (.t 1)), (some (48, true))⟩,
    ⟨(some 50), .callF 75 [(.t 49)], (some (48, true))⟩,
    ⟨(some 51), .op (.pick (.t 48) (.t 50) (.c (.b false))), (some (42, false))⟩,
    ⟨(some 52), .op (.pick (.t 42) (.c (.b true)) (.t 51)), (some (35, true))⟩,
    ⟨(some 53), .op (.pick (.t 35) (.t 52) (.c (.b false))), none⟩,
    ⟨(some 4), .op (.mov (.t 31)), none⟩,
    ⟨(some 5), .op (.mov (.t 53)), none⟩])
  (.ret)))))⟩
-- slices.Insert[[]uint32,uint32]
def i64 : IFn := ⟨[.tmp 6],
  .seq (.reg false [⟨(some 6), .op (.mov (.c (.nils))), none⟩])
  (.seq (.reg false [⟨(some 10), .op (.mov (.t 0)), none⟩,
    ⟨(some 11), .op (.mov (.t 1)), none⟩,
    ⟨(some 12), .op (.slcS 1 (.t 10) (some (.t 11)) none none), none⟩])
  (.seq (.reg false [⟨(some 13), .op (.mov (.t 2)), none⟩,
    ⟨(some 14), .op (.len false (.t 13)), none⟩,
    ⟨(some 7), .op (.mov (.t 14)), none⟩])
  (.seq (.seq (.reg false [⟨(some 15), .op (.mov (.t 7)), none⟩,
    ⟨(some 16), .op (.bin .eql (.t 15) (.c (.i .i64 0))), none⟩])
  (.cond (.t 16) (.seq (.reg false [⟨(some 17), .op (.mov (.t 0)), none⟩,
    ⟨(some 6), .op (.mov (.t 17)), none⟩])
  (.ret)) (.skip)))
  (.seq (.reg false [⟨(some 18), .op (.mov (.t 0)), none⟩,
    ⟨(some 19), .op (.len false (.t 18)), none⟩,
    ⟨(some 8), .op (.mov (.t 19)), none⟩])
  (.seq (.seq (.reg false [⟨(some 20), .op (.mov (.t 1)), none⟩,
    ⟨(some 21), .op (.mov (.t 8)), none⟩,
    ⟨(some 22), .op (.bin .eql (.t 20) (.t 21)), none⟩])
  (.cond (.t 22) (.seq (.reg false [⟨(some 23), .op (.mov (.t 0)), none⟩,
    ⟨(some 24), .op (.mov (.t 2)), none⟩,
    ⟨(some 25), .op (.app 1 4 false (.t 23) (.t 24)), none⟩,
    ⟨(some 6), .op (.mov (.t 25)), none⟩])
  (.ret)) (.skip)))
  (.seq (.seq (.reg false [⟨(some 26), .op (.mov (.t 8)), none⟩,
    ⟨(some 27), .op (.mov (.t 7)), none⟩,
    ⟨(some 28), .op (.bin .add (.t 26) (.t 27)), none⟩,
    ⟨(some 29), .op (.mov (.t 0)), none⟩,
    ⟨(some 30), .op (.no), none⟩,
    ⟨(some 31), .op (.bin .gtr (.t 28) (.t 30)), none⟩])
  (.cond (.t 31) (.seq (.reg false [⟨(some 32), .op (.mov (.t 0)), none⟩,
    ⟨(some 33), .op (.mov (.t 1)), none⟩,
    ⟨(some 34), .op (.slcS 1 (.t 32) none (some (.t 33)) none), none⟩,
    ⟨(some 35), .op (.mov (.t 8)), none⟩,
    ⟨(some 36), .op (.mov (.t 7)), none⟩,
    ⟨(some 37), .op (.bin .add (.t 35) (.t 36)), none⟩,
    ⟨(some 38), .op (.mov (.t 1)), none⟩,
    ⟨(some 39), .op (.bin .sub (.t 37) (.t 38)), none⟩,
    ⟨(some 40), .op (.no), none⟩,
    ⟨(some 9), .op (.mov (.t 40)), none⟩])
  (.seq (.reg false [⟨(some 41), .op (.mov (.t 9)), none⟩,
    ⟨(some 42), .op (.mov (.t 1)), none⟩,
    ⟨(some 43), .op (.slcS 1 (.t 41) (some (.t 42)) none none), none⟩,
    ⟨(some 44), .op (.mov (.t 2)), none⟩,
    ⟨(some 45), .op (.copy 1 (.t 43) (.t 44)), none⟩])
  (.seq (.reg true [⟨(some 46), .op (.mov (.t 9)), none⟩,
    ⟨(some 47), .op (.mov (.t 1)), none⟩,
    ⟨(some 48), .op (.mov (.t 7)), none⟩,
    ⟨(some 49), .op (.bin .add (.t 47) (.t 48)), none⟩,
    ⟨(some 50), .op (.slcS 1 (.t 46) (some (.t 49)) none none), none⟩,
    ⟨(some 51), .op (.mov (.t 0)), none⟩,
    ⟨(some 52), .op (.mov (.t 1)), none⟩,
    ⟨(some 53), .op (.slcS 1 (.t 51) (some (.t 52)) none none), none⟩,
    ⟨(some 54), .op (.copy 1 (.t 50) (.t 53)), none⟩])
  (.seq (.reg false [⟨(some 55), .op (.mov (.t 9)), none⟩,
    ⟨(some 6), .op (.mov (.t 55)), none⟩])
  (.ret))))) (.skip)))
  (.seq (.reg false [⟨(some 56), .op (.mov (.t 0)), none⟩,
    ⟨(some 57), .op (.mov (.t 8)), none⟩,
    ⟨(some 58), .op (.mov (.t 7)), none⟩,
    ⟨(some 59), .op (.bin .add (.t 57) (.t 58)), none⟩,
    ⟨(some 60), .op (.slcS 1 (.t 56) none (some (.t 59)) none), none⟩,
    ⟨(some 0), .op (.mov (.t 60)), none⟩])
  (.seq (.seq (.reg false [⟨(some 61), .op (.mov (.t 2)), none⟩,
    ⟨(some 62), .op (.mov (.t 0)), none⟩,
    ⟨(some 63), .op (.mov (.t 1)), none⟩,
    ⟨(some 64), .op (.mov (.t 7)), none⟩,
    ⟨(some 65), .op (.bin .add (.t 63) (.t 64)), none⟩,
    ⟨(some 66), .op (.slcS 1 (.t 62) (some (.t 65)) none none), none⟩,
    ⟨(some 67), .callF 76 [(.t 61), (.t 66)], none⟩,
    ⟨(some 68), .op (.un .not (.t 67)), none⟩])
  (.cond (.t 68) (.seq (.reg true [⟨(some 69), .op (.mov (.t 0)), none⟩,
    ⟨(some 70), .op (.mov (.t 1)), none⟩,
    ⟨(some 71), .op (.mov (.t 7)), none⟩,
    ⟨(some 72), .op (.bin .add (.t 70) (.t 71)), none⟩,
    ⟨(some 73), .op (.slcS 1 (.t 69) (some (.t 72)) none none), none⟩,
    ⟨(some 74), .op (.mov (.t 0)), none⟩,
    ⟨(some 75), .op (.mov (.t 1)), none⟩,
    ⟨(some 76), .op (.slcS 1 (.t 74) (some (.t 75)) none none), none⟩,
    ⟨(some 77), .op (.copy 1 (.t 73) (.t 76)), none⟩])
  (.seq (.reg false [⟨(some 78), .op (.mov (.t 0)), none⟩,
    ⟨(some 79), .op (.mov (.t 1)), none⟩,
    ⟨(some 80), .op (.slcS 1 (.t 78) (some (.t 79)) none none), none⟩,
    ⟨(some 81), .op (.mov (.t 2)), none⟩,
    ⟨(some 82), .op (.copy 1 (.t 80) (.t 81)), none⟩])
  (.seq (.reg false [⟨(some 83), .op (.mov (.t 0)), none⟩,
    ⟨(some 6), .op (.mov (.t 83)), none⟩])
  (.ret)))) (.skip)))
  (.seq (.reg false [⟨(some 84), .op (.mov (.t 0)), none⟩,
    ⟨(some 85), .op (.mov (.t 8)), none⟩,
    ⟨(some 86), .op (.slcS 1 (.t 84) (some (.t 85)) none none), none⟩,
    ⟨(some 87), .op (.mov (.t 2)), none⟩,
    ⟨(some 88), .op (.copy 1 (.t 86) (.t 87)), none⟩])
  (.seq (.reg false [⟨(some 89), .op (.mov (.t 0)), none⟩,
    ⟨(some 90), .op (.mov (.t 1)), none⟩,
    ⟨(some 91), .op (.slcS 1 (.t 89) (some (.t 90)) none none), none⟩,
    ⟨(some 92), .op (.mov (.t 7)), none⟩,
    ⟨(some 93), .callF 77 [(.t 91), (.t 92)], none⟩])
  (.seq (.reg false [⟨(some 94), .op (.mov (.t 0)), none⟩,
    ⟨(some 6), .op (.mov (.t 94)), none⟩])
  (.ret))))))))))))⟩
-- vestibule/names.find[uint64]
def i65 : IFn := ⟨[.tmp 6, .tmp 7],
  .seq (.reg false [⟨(some 6), .op (.mov (.c (.i .u64 0))), none⟩,
    ⟨(some 7), .op (.mov (.c (.i .i64 0))), none⟩])
  (.seq (.seq (.reg false [⟨(some 11), .op (.mov (.t 0)), none⟩,
    ⟨(some 12), .op (.len false (.t 11)), none⟩,
    ⟨(some 13), .op (.mov (.c (.i .i64 0))), none⟩])
  (.blk 0 (.loop (.seq (.reg false [⟨(some 14), .op (.bin .lss (.t 13) (.t 12)), none⟩])
  (.seq (.cond (.t 14) (.skip) (.exit 0))
  (.seq (.blk 1 (.seq (.reg false [⟨(some 15), .op (.iAddrS 2 (.t 11) (.t 13)), none⟩,
    ⟨(some 16), .op (.loadN 2 (.t 15)), none⟩,
    ⟨(some 9), .op (.alloc [.s [], .i .u64 0]), none⟩,
    ⟨none, .op (.store 2 (.t 9) (.t 16)), none⟩])
  (.seq (.reg false [⟨(some 17), .op (.fAddr 0 (.t 9)), none⟩,
    ⟨(some 18), .op (.load1 (.t 17)), none⟩,
    ⟨(some 19), .op (.mov (.t 1)), none⟩,
    ⟨(some 20), .op (.bin .eql (.t 18) (.t 19)), none⟩])
  (.cond (.t 20) (.seq (.reg false [⟨(some 21), .op (.fAddr 1 (.t 9)), none⟩,
    ⟨(some 22), .op (.load1 (.t 21)), none⟩,
    ⟨(some 6), .op (.mov (.t 22)), none⟩,
    ⟨(some 7), .op (.mov (.c (.i .i64 0))), none⟩])
  (.ret)) (.skip)))))
  (.reg false [⟨(some 23), .op (.bin .add (.t 13) (.c (.i .i64 1))), none⟩,
    ⟨(some 13), .op (.mov (.t 23)), none⟩])))))))
  (.seq (.reg false [⟨(some 10), .op (.mov (.c (.i .u64 0))), none⟩])
  (.seq (.reg false [⟨(some 24), .op (.mov (.t 10)), none⟩,
    ⟨(some 25), .op (.mov (.t 2)), none⟩,
    ⟨(some 6), .op (.mov (.t 24)), none⟩,
    ⟨(some 7), .op (.mov (.t 25)), none⟩])
  (.ret))))⟩
-- vestibule/arch.table
def i66 : IFn := ⟨[.cell 0 12 true],
  .seq (.reg false [⟨(some 0), .op (.alloc [.s [], .i .u32 0, .s [], .i .u32 0, .s [], .i .u32 0, .s [], .i .u32 0, .s [], .i .u32 0, .s [], .i .u32 0]), none⟩])
  (.seq (.reg false [⟨(some 1), .op (.build [.s [], .i .u32 0] [(0, 1, (.c (.s [120, 56, 54, 45, 54, 52]))), (1, 1, (.c (.i .u32 3221225534)))]), none⟩,
    ⟨(some 2), .op (.build [.s [], .i .u32 0] [(0, 1, (.c (.s [120, 56, 54]))), (1, 1, (.c (.i .u32 1073741827)))]), none⟩,
    ⟨(some 3), .op (.build [.s [], .i .u32 0] [(0, 1, (.c (.s [120, 51, 50]))), (1, 1, (.c (.i .u32 3221225534)))]), none⟩,
    ⟨(some 4), .op (.build [.s [], .i .u32 0] [(0, 1, (.c (.s [97, 114, 109]))), (1, 1, (.c (.i .u32 1073741864)))]), none⟩,
    ⟨(some 5), .op (.build [.s [], .i .u32 0] [(0, 1, (.c (.s [97, 114, 109, 54, 52]))), (1, 1, (.c (.i .u32 3221225655)))]), none⟩,
    ⟨(some 6), .op (.build [.s [], .i .u32 0] [(0, 1, (.c (.s [114, 105, 115, 99, 118, 54, 52]))), (1, 1, (.c (.i .u32 3221225715)))]), none⟩,
    ⟨(some 7), .op (.build [.s [], .i .u32 0, .s [], .i .u32 0, .s [], .i .u32 0, .s [], .i .u32 0, .s [], .i .u32 0, .s [], .i .u32 0] [(0, 2, (.t 1)), (2, 2, (.t 2)), (4, 2, (.t 3)), (6, 2, (.t 4)), (8, 2, (.t 5)), (10, 2, (.t 6))]), none⟩,
    ⟨none, .op (.store 12 (.t 0) (.t 7)), none⟩])
  (.ret))⟩
-- slices.IndexFunc[[]vestibule/arch.arch,vestibule/arch.arch]
def i67 : IFn := ⟨[.tmp 4],
  .seq (.reg false [⟨(some 4), .op (.mov (.c (.i .i64 0))), none⟩])
  (.seq (.seq (.reg false [⟨(some 6), .op (.mov (.t 0)), none⟩,
    ⟨(some 7), .op (.len false (.t 6)), none⟩,
    ⟨(some 8), .op (.mov (.c (.i .i64 0))), none⟩])
  (.blk 0 (.loop (.seq (.reg false [⟨(some 9), .op (.bin .lss (.t 8) (.t 7)), none⟩])
  (.seq (.cond (.t 9) (.skip) (.exit 0))
  (.seq (.blk 1 (.seq (.reg false [⟨(some 10), .op (.mov (.t 8)), none⟩,
    ⟨(some 5), .op (.mov (.t 10)), none⟩])
  (.seq (.reg false [⟨(some 11), .op (.mov (.t 1)), none⟩,
    ⟨(some 12), .op (.mov (.t 0)), none⟩,
    ⟨(some 13), .op (.mov (.t 5)), none⟩,
    ⟨(some 14), .op (.iAddrS 2 (.t 12) (.t 13)), none⟩,
    ⟨(some 15), .op (.loadN 2 (.t 14)), none⟩,
    ⟨(some 16), .callV (.t 11) [(.t 15)], none⟩])
  (.cond (.t 16) (.seq (.reg false [⟨(some 17), .op (.mov (.t 5)), none⟩,
    ⟨(some 4), .op (.mov (.t 17)), none⟩])
  (.ret)) (.skip)))))
  (.reg false [⟨(some 18), .op (.bin .add (.t 8) (.c (.i .i64 1))), none⟩,
    ⟨(some 8), .op (.mov (.t 18)), none⟩])))))))
  (.seq (.reg false [⟨(some 4), .op (.mov (.c (.i .i64 (-1)))), none⟩])
  (.ret)))⟩
-- slices.IndexFunc[[]int,int]
def i68 : IFn := ⟨[.tmp 4],
  .seq (.reg false [⟨(some 4), .op (.mov (.c (.i .i64 0))), none⟩])
  (.seq (.seq (.reg false [⟨(some 6), .op (.mov (.t 0)), none⟩,
    ⟨(some 7), .op (.len false (.t 6)), none⟩,
    ⟨(some 8), .op (.mov (.c (.i .i64 0))), none⟩])
  (.blk 0 (.loop (.seq (.reg false [⟨(some 9), .op (.bin .lss (.t 8) (.t 7)), none⟩])
  (.seq (.cond (.t 9) (.skip) (.exit 0))
  (.seq (.blk 1 (.seq (.reg false [⟨(some 10), .op (.mov (.t 8)), none⟩,
    ⟨(some 5), .op (.mov (.t 10)), none⟩])
  (.seq (.reg false [⟨(some 11), .op (.mov (.t 1)), none⟩,
    ⟨(some 12), .op (.mov (.t 0)), none⟩,
    ⟨(some 13), .op (.mov (.t 5)), none⟩,
    ⟨(some 14), .op (.iAddrS 1 (.t 12) (.t 13)), none⟩,
    ⟨(some 15), .op (.load1 (.t 14)), none⟩,
    ⟨(some 16), .callV (.t 11) [(.t 15)], none⟩])
  (.cond (.t 16) (.seq (.reg false [⟨(some 17), .op (.mov (.t 5)), none⟩,
    ⟨(some 4), .op (.mov (.t 17)), none⟩])
  (.ret)) (.skip)))))
  (.reg false [⟨(some 18), .op (.bin .add (.t 8) (.c (.i .i64 1))), none⟩,
    ⟨(some 8), .op (.mov (.t 18)), none⟩])))))))
  (.seq (.reg false [⟨(some 4), .op (.mov (.c (.i .i64 (-1)))), none⟩])
  (.ret)))⟩
-- cmp.Less[int]
def i69 : IFn := ⟨[.tmp 4],
  .seq (.reg false [⟨(some 4), .op (.mov (.c (.b false))), none⟩])
  (.seq (.reg false [⟨(some 5), .op (.mov (.t 0)), none⟩,
    ⟨(some 6), .callF 78 [(.t 5)], none⟩,
    ⟨(some 7), .op (.mov (.t 6)), none⟩,
    ⟨(some 8), .op (.mov (.t 1)), (some (7, true))⟩,
    ⟨(some 9), .callF 78 [(.t 8)], (some (7, true))⟩,
    ⟨(some 10), .op (.un .not (.t 9)), (some (7, true))⟩,
    ⟨(some 11), .op (.pick (.t 7) (.t 10) (.c (.b false))), none⟩,
    ⟨(some 12), .op (.mov (.t 11)), none⟩,
    ⟨(some 13), .op (.mov (.t 0)), (some (12, false))⟩,
    ⟨(some 14), .op (.mov (.t 1)), (some (12, false))⟩,
    ⟨(some 15), .op (.bin .lss (.t 13) (.t 14)), (some (12, false))⟩,
    ⟨(some 16), .op (.pick (.t 12) (.c (.b true)) (.t 15)), none⟩,
    ⟨(some 4), .op (.mov (.t 16)), none⟩])
  (.ret))⟩
-- slices.isNaN[int]
def i70 : IFn := ⟨[.tmp 2],
  .seq (.reg false [⟨(some 2), .op (.mov (.c (.b false))), none⟩])
  (.seq (.reg false [⟨(some 3), .op (.mov (.t 0)), none⟩,
    ⟨(some 4), .op (.mov (.t 0)), none⟩,
    ⟨(some 5), .op (.bin .neq (.t 3) (.t 4)), none⟩,
    ⟨(some 2), .op (.mov (.t 5)), none⟩])
  (.ret))⟩
-- slices.rotateRight[int]
def i72 : IFn := ⟨[],
  .reg false [⟨(some 4), .op (.mov (.t 0)), none⟩,
    ⟨(some 5), .op (.mov (.t 0)), none⟩,
    ⟨(some 6), .op (.len false (.t 5)), none⟩,
    ⟨(some 7), .op (.mov (.t 1)), none⟩,
    ⟨(some 8), .op (.bin .sub (.t 6) (.t 7)), none⟩,
    ⟨(some 9), .callF 79 [(.t 4), (.t 8)], none⟩]⟩
-- slices.IndexFunc[[]uint32,uint32]
def i73 : IFn := ⟨[.tmp 4],
  .seq (.reg false [⟨(some 4), .op (.mov (.c (.i .i64 0))), none⟩])
  (.seq (.seq (.reg false [⟨(some 6), .op (.mov (.t 0)), none⟩,
    ⟨(some 7), .op (.len false (.t 6)), none⟩,
    ⟨(some 8), .op (.mov (.c (.i .i64 0))), none⟩])
  (.blk 0 (.loop (.seq (.reg false [⟨(some 9), .op (.bin .lss (.t 8) (.t 7)), none⟩])
  (.seq (.cond (.t 9) (.skip) (.exit 0))
  (.seq (.blk 1 (.seq (.reg false [⟨(some 10), .op (.mov (.t 8)), none⟩,
    ⟨(some 5), .op (.mov (.t 10)), none⟩])
  (.seq (.reg false [⟨(some 11), .op (.mov (.t 1)), none⟩,
    ⟨(some 12), .op (.mov (.t 0)), none⟩,
    ⟨(some 13), .op (.mov (.t 5)), none⟩,
    ⟨(some 14), .op (.iAddrS 1 (.t 12) (.t 13)), none⟩,
    ⟨(some 15), .op (.load1 (.t 14)), none⟩,
    ⟨(some 16), .callV (.t 11) [(.t 15)], none⟩])
  (.cond (.t 16) (.seq (.reg false [⟨(some 17), .op (.mov (.t 5)), none⟩,
    ⟨(some 4), .op (.mov (.t 17)), none⟩])
  (.ret)) (.skip)))))
  (.reg false [⟨(some 18), .op (.bin .add (.t 8) (.c (.i .i64 1))), none⟩,
    ⟨(some 8), .op (.mov (.t 18)), none⟩])))))))
  (.seq (.reg false [⟨(some 4), .op (.mov (.c (.i .i64 (-1)))), none⟩])
  (.ret)))⟩
-- cmp.Less[uint32]
def i74 : IFn := ⟨[.tmp 4],
  .seq (.reg false [⟨(some 4), .op (.mov (.c (.b false))), none⟩])
  (.seq (.reg false [⟨(some 5), .op (.mov (.t 0)), none⟩,
    ⟨(some 6), .callF 80 [(.t 5)], none⟩,
    ⟨(some 7), .op (.mov (.t 6)), none⟩,
    ⟨(some 8), .op (.mov (.t 1)), (some (7, true))⟩,
    ⟨(some 9), .callF 80 [(.t 8)], (some (7, true))⟩,
    ⟨(some 10), .op (.un .not (.t 9)), (some (7, true))⟩,
    ⟨(some 11), .op (.pick (.t 7) (.t 10) (.c (.b false))), none⟩,
    ⟨(some 12), .op (.mov (.t 11)), none⟩,
    ⟨(some 13), .op (.mov (.t 0)), (some (12, false))⟩,
    ⟨(some 14), .op (.mov (.t 1)), (some (12, false))⟩,
    ⟨(some 15), .op (.bin .lss (.t 13) (.t 14)), (some (12, false))⟩,
    ⟨(some 16), .op (.pick (.t 12) (.c (.b true)) (.t 15)), none⟩,
    ⟨(some 4), .op (.mov (.t 16)), none⟩])
  (.ret))⟩
-- slices.isNaN[uint32]
def i75 : IFn := ⟨[.tmp 2],
  .seq (.reg false [⟨(some 2), .op (.mov (.c (.b false))), none⟩])
  (.seq (.reg false [⟨(some 3), .op (.mov (.t 0)), none⟩,
    ⟨(some 4), .op (.mov (.t 0)), none⟩,
    ⟨(some 5), .op (.bin .neq (.t 3) (.t 4)), none⟩,
    ⟨(some 2), .op (.mov (.t 5)), none⟩])
  (.ret))⟩
-- slices.rotateRight[uint32]
def i77 : IFn := ⟨[],
  .reg false [⟨(some 4), .op (.mov (.t 0)), none⟩,
    ⟨(some 5), .op (.mov (.t 0)), none⟩,
    ⟨(some 6), .op (.len false (.t 5)), none⟩,
    ⟨(some 7), .op (.mov (.t 1)), none⟩,
    ⟨(some 8), .op (.bin .sub (.t 6) (.t 7)), none⟩,
    ⟨(some 9), .callF 81 [(.t 4), (.t 8)], none⟩]⟩
-- cmp.isNaN[int]
def i78 : IFn := ⟨[.tmp 2],
  .seq (.reg false [⟨(some 2), .op (.mov (.c (.b false))), none⟩])
  (.seq (.reg false [⟨(some 3), .op (.mov (.t 0)), none⟩,
    ⟨(some 4), .op (.mov (.t 0)), none⟩,
    ⟨(some 5), .op (.bin .neq (.t 3) (.t 4)), none⟩,
    ⟨(some 2), .op (.mov (.t 5)), none⟩])
  (.ret))⟩
-- slices.rotateLeft[int]
def i79 : IFn := ⟨[],
  .seq (.reg false [⟨(some 4), .op (.mov (.t 0)), none⟩,
    ⟨(some 5), .op (.mov (.t 1)), none⟩,
    ⟨(some 6), .op (.slcS 1 (.t 4) none (some (.t 5)) none), none⟩,
    ⟨(some 7), .callF 82 [(.t 6)], none⟩])
  (.seq (.reg false [⟨(some 8), .op (.mov (.t 0)), none⟩,
    ⟨(some 9), .op (.mov (.t 1)), none⟩,
    ⟨(some 10), .op (.slcS 1 (.t 8) (some (.t 9)) none none), none⟩,
    ⟨(some 11), .callF 82 [(.t 10)], none⟩])
  (.reg false [⟨(some 12), .op (.mov (.t 0)), none⟩,
    ⟨(some 13), .callF 82 [(.t 12)], none⟩]))⟩
-- cmp.isNaN[uint32]
def i80 : IFn := ⟨[.tmp 2],
  .seq (.reg false [⟨(some 2), .op (.mov (.c (.b false))), none⟩])
  (.seq (.reg false [⟨(some 3), .op (.mov (.t 0)), none⟩,
    ⟨(some 4), .op (.mov (.t 0)), none⟩,
    ⟨(some 5), .op (.bin .neq (.t 3) (.t 4)), none⟩,
    ⟨(some 2), .op (.mov (.t 5)), none⟩])
  (.ret))⟩
-- slices.rotateLeft[uint32]
def i81 : IFn := ⟨[],
  .seq (.reg false [⟨(some 4), .op (.mov (.t 0)), none⟩,
    ⟨(some 5), .op (.mov (.t 1)), none⟩,
    ⟨(some 6), .op (.slcS 1 (.t 4) none (some (.t 5)) none), none⟩,
    ⟨(some 7), .callF 83 [(.t 6)], none⟩])
  (.seq (.reg false [⟨(some 8), .op (.mov (.t 0)), none⟩,
    ⟨(some 9), .op (.mov (.t 1)), none⟩,
    ⟨(some 10), .op (.slcS 1 (.t 8) (some (.t 9)) none none), none⟩,
    ⟨(some 11), .callF 83 [(.t 10)], none⟩])
  (.reg false [⟨(some 12), .op (.mov (.t 0)), none⟩,
    ⟨(some 13), .callF 83 [(.t 12)], none⟩]))⟩
-- slices.Reverse[[]int,int]
def i82 : IFn := ⟨[],
  .seq (.reg false [⟨(some 4), .op (.mov (.t 0)), none⟩,
    ⟨(some 5), .op (.len false (.t 4)), none⟩,
    ⟨(some 6), .op (.bin .sub (.t 5) (.c (.i .i64 1))), none⟩,
    ⟨(some 2), .op (.mov (.c (.i .i64 0))), none⟩,
    ⟨(some 3), .op (.mov (.t 6)), none⟩])
  (.blk 0 (.loop (.seq (.seq (.reg false [⟨(some 7), .op (.mov (.t 2)), none⟩,
    ⟨(some 8), .op (.mov (.t 3)), none⟩,
    ⟨(some 9), .op (.bin .lss (.t 7) (.t 8)), none⟩])
  (.cond (.t 9) (.skip) (.exit 0)))
  (.seq (.blk 1 (.reg true [⟨(some 14), .op (.mov (.t 0)), none⟩,
    ⟨(some 15), .op (.mov (.t 2)), none⟩,
    ⟨(some 16), .op (.mov (.t 0)), none⟩,
    ⟨(some 17), .op (.mov (.t 3)), none⟩,
    ⟨(some 18), .op (.mov (.t 0)), none⟩,
    ⟨(some 19), .op (.mov (.t 3)), none⟩,
    ⟨(some 20), .op (.iAddrS 1 (.t 18) (.t 19)), none⟩,
    ⟨(some 21), .op (.load1 (.t 20)), none⟩,
    ⟨(some 22), .op (.mov (.t 0)), none⟩,
    ⟨(some 23), .op (.mov (.t 2)), none⟩,
    ⟨(some 24), .op (.iAddrS 1 (.t 22) (.t 23)), none⟩,
    ⟨(some 25), .op (.load1 (.t 24)), none⟩,
    ⟨(some 26), .op (.iAddrS 1 (.t 14) (.t 15)), none⟩,
    ⟨none, .op (.store 1 (.t 26) (.t 21)), none⟩,
    ⟨(some 27), .op (.iAddrS 1 (.t 16) (.t 17)), none⟩,
    ⟨none, .op (.store 1 (.t 27) (.t 25)), none⟩]))
  (.reg false [⟨(some 10), .op (.mov (.t 2)), none⟩,
    ⟨(some 11), .op (.bin .add (.t 10) (.c (.i .i64 1))), none⟩,
    ⟨(some 12), .op (.mov (.t 3)), none⟩,
    ⟨(some 13), .op (.bin .sub (.t 12) (.c (.i .i64 1))), none⟩,
    ⟨(some 2), .op (.mov (.t 11)), none⟩,
    ⟨(some 3), .op (.mov (.t 13)), none⟩])))))⟩
-- slices.Reverse[[]uint32,uint32]
def i83 : IFn := ⟨[],
  .seq (.reg false [⟨(some 4), .op (.mov (.t 0)), none⟩,
    ⟨(some 5), .op (.len false (.t 4)), none⟩,
    ⟨(some 6), .op (.bin .sub (.t 5) (.c (.i .i64 1))), none⟩,
    ⟨(some 2), .op (.mov (.c (.i .i64 0))), none⟩,
    ⟨(some 3), .op (.mov (.t 6)), none⟩])
  (.blk 0 (.loop (.seq (.seq (.reg false [⟨(some 7), .op (.mov (.t 2)), none⟩,
    ⟨(some 8), .op (.mov (.t 3)), none⟩,
    ⟨(some 9), .op (.bin .lss (.t 7) (.t 8)), none⟩])
  (.cond (.t 9) (.skip) (.exit 0)))
  (.seq (.blk 1 (.reg true [⟨(some 14), .op (.mov (.t 0)), none⟩,
    ⟨(some 15), .op (.mov (.t 2)), none⟩,
    ⟨(some 16), .op (.mov (.t 0)), none⟩,
    ⟨(some 17), .op (.mov (.t 3)), none⟩,
    ⟨(some 18), .op (.mov (.t 0)), none⟩,
    ⟨(some 19), .op (.mov (.t 3)), none⟩,
    ⟨(some 20), .op (.iAddrS 1 (.t 18) (.t 19)), none⟩,
    ⟨(some 21), .op (.load1 (.t 20)), none⟩,
    ⟨(some 22), .op (.mov (.t 0)), none⟩,
    ⟨(some 23), .op (.mov (.t 2)), none⟩,
    ⟨(some 24), .op (.iAddrS 1 (.t 22) (.t 23)), none⟩,
    ⟨(some 25), .op (.load1 (.t 24)), none⟩,
    ⟨(some 26), .op (.iAddrS 1 (.t 14) (.t 15)), none⟩,
    ⟨none, .op (.store 1 (.t 26) (.t 21)), none⟩,
    ⟨(some 27), .op (.iAddrS 1 (.t 16) (.t 17)), none⟩,
    ⟨none, .op (.store 1 (.t 27) (.t 25)), none⟩]))
  (.reg false [⟨(some 10), .op (.mov (.t 2)), none⟩,
    ⟨(some 11), .op (.bin .add (.t 10) (.c (.i .i64 1))), none⟩,
    ⟨(some 12), .op (.mov (.t 3)), none⟩,
    ⟨(some 13), .op (.bin .sub (.t 12) (.c (.i .i64 1))), none⟩,
    ⟨(some 2), .op (.mov (.t 11)), none⟩,
    ⟨(some 3), .op (.mov (.t 13)), none⟩])))))⟩
end Go.Proofs.Ytbcpapkjdphfpaa.Ir
