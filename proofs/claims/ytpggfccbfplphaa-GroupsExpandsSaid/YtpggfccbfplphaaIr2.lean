/- The code of functions of this seat, as the abstract machine has it, part 2. No condition: 'Ok2' shows that it is the program's. -/
import Derived.Test.YtpggfccbfplphaaCore2
namespace Go.Proofs.Ytpggfccbfplphaa.Ir
open Go.Ab
-- slices.partialInsertionSortCmpFunc[vestibule/api.Call]
def i62 : IFn := ⟨[.tmp 8],
  .seq (.reg false [⟨(some 8), .op (.mov (.c (.b false))), none⟩])
  (.seq (.reg false [⟨(some 13), .op (.mov (.t 1)), none⟩,
    ⟨(some 14), .op (.bin .add (.t 13) (.c (.i .i64 1))), none⟩,
    ⟨(some 9), .op (.mov (.t 14)), none⟩])
  (.seq (.seq (.reg false [⟨(some 10), .op (.mov (.c (.i .i64 0))), none⟩])
  (.blk 0 (.loop (.seq (.seq (.reg false [⟨(some 15), .op (.mov (.t 10)), none⟩,
    ⟨(some 16), .op (.bin .lss (.t 15) (.c (.i .i64 5))), none⟩])
  (.cond (.t 16) (.skip) (.exit 0)))
  (.seq (.blk 1 (.seq (.blk 2 (.loop (.seq (.seq (.reg true [⟨(some 19), .op (.mov (.t 9)), none⟩,
    ⟨(some 20), .op (.mov (.t 2)), none⟩,
    ⟨(some 21), .op (.bin .lss (.t 19) (.t 20)), none⟩,
    ⟨(some 22), .op (.mov (.t 21)), none⟩,
    ⟨(some 23), .op (.mov (.t 3)), (some (22, true))⟩,
    ⟨(some 24), .op (.mov (.t 0)), (some (22, true))⟩,
    ⟨(some 25), .op (.mov (.t 9)), (some (22, true))⟩,
    ⟨(some 26), .op (.iAddrS 2 (.t 24) (.t 25)), (some (22, true))⟩,
    ⟨(some 27), .op (.loadN 2 (.t 26)), (some (22, true))⟩,
    ⟨(some 28), .op (.mov (.t 0)), (some (22, true))⟩,
    ⟨(some 29), .op (.mov (.t 9)), (some (22, true))⟩,
    ⟨(some 30), .op (.bin .sub (.t 29) (.c (.i .i64 1))), (some (22, true))⟩,
    ⟨(some 31), .op (.iAddrS 2 (.t 28) (.t 30)), (some (22, true))⟩,
    ⟨(some 32), .op (.loadN 2 (.t 31)), (some (22, true))⟩,
    ⟨(some 33), .callV (.t 23) [(.t 27), (.t 32)], (some (22, true))⟩,
    ⟨(some 34), .op (.bin .lss (.t 33) (.c (.i .i64 0))), (some (22, true))⟩,
    ⟨(some 35), .op (.un .not (.t 34)), (some (22, true))⟩,
    ⟨(some 36), .op (.pick (.t 22) (.t 35) (.c (.b false))), none⟩])
  (.cond (.t 36) (.skip) (.exit 2)))
  (.blk 3 (.reg false [⟨(some 37), .op (.mov (.t 9)), none⟩,
    ⟨(some 38), .op (.bin .add (.t 37) (.c (.i .i64 1))), none⟩,
    ⟨(some 9), .op (.mov (.t 38)), none⟩])))))
  (.seq (.seq (.reg false [⟨(some 39), .op (.mov (.t 9)), none⟩,
    ⟨(some 40), .op (.mov (.t 2)), none⟩,
    ⟨(some 41), .op (.bin .eql (.t 39) (.t 40)), none⟩])
  (.cond (.t 41) (.seq (.reg false [⟨(some 8), .op (.mov (.c (.b true))), none⟩])
  (.ret)) (.skip)))
  (.seq (.seq (.reg false [⟨(some 42), .op (.mov (.t 2)), none⟩,
    ⟨(some 43), .op (.mov (.t 1)), none⟩,
    ⟨(some 44), .op (.bin .sub (.t 42) (.t 43)), none⟩,
    ⟨(some 45), .op (.bin .lss (.t 44) (.c (.i .i64 50))), none⟩])
  (.cond (.t 45) (.seq (.reg false [⟨(some 8), .op (.mov (.c (.b false))), none⟩])
  (.ret)) (.skip)))
  (.seq (.reg true [⟨(some 46), .op (.mov (.t 0)), none⟩,
    ⟨(some 47), .op (.mov (.t 9)), none⟩,
    ⟨(some 48), .op (.mov (.t 0)), none⟩,
    ⟨(some 49), .op (.mov (.t 9)), none⟩,
    ⟨(some 50), .op (.bin .sub (.t 49) (.c (.i .i64 1))), none⟩,
    ⟨(some 51), .op (.mov (.t 0)), none⟩,
    ⟨(some 52), .op (.mov (.t 9)), none⟩,
    ⟨(some 53), .op (.bin .sub (.t 52) (.c (.i .i64 1))), none⟩,
    ⟨(some 54), .op (.iAddrS 2 (.t 51) (.t 53)), none⟩,
    ⟨(some 55), .op (.loadN 2 (.t 54)), none⟩,
    ⟨(some 56), .op (.mov (.t 0)), none⟩,
    ⟨(some 57), .op (.mov (.t 9)), none⟩,
    ⟨(some 58), .op (.iAddrS 2 (.t 56) (.t 57)), none⟩,
    ⟨(some 59), .op (.loadN 2 (.t 58)), none⟩,
    ⟨(some 60), .op (.iAddrS 2 (.t 46) (.t 47)), none⟩,
    ⟨none, .op (.store 2 (.t 60) (.t 55)), none⟩,
    ⟨(some 61), .op (.iAddrS 2 (.t 48) (.t 50)), none⟩,
    ⟨none, .op (.store 2 (.t 61) (.t 59)), none⟩])
  (.seq (.seq (.reg false [⟨(some 62), .op (.mov (.t 9)), none⟩,
    ⟨(some 63), .op (.mov (.t 1)), none⟩,
    ⟨(some 64), .op (.bin .sub (.t 62) (.t 63)), none⟩,
    ⟨(some 65), .op (.bin .geq (.t 64) (.c (.i .i64 2))), none⟩])
  (.cond (.t 65) (.seq (.reg false [⟨(some 66), .op (.mov (.t 9)), none⟩,
    ⟨(some 67), .op (.bin .sub (.t 66) (.c (.i .i64 1))), none⟩,
    ⟨(some 11), .op (.mov (.t 67)), none⟩])
  (.blk 4 (.loop (.seq (.seq (.reg false [⟨(some 68), .op (.mov (.t 11)), none⟩,
    ⟨(some 69), .op (.bin .geq (.t 68) (.c (.i .i64 1))), none⟩])
  (.cond (.t 69) (.skip) (.exit 4)))
  (.seq (.blk 5 (.seq (.seq (.reg true [⟨(some 72), .op (.mov (.t 3)), none⟩,
    ⟨(some 73), .op (.mov (.t 0)), none⟩,
    ⟨(some 74), .op (.mov (.t 11)), none⟩,
    ⟨(some 75), .op (.iAddrS 2 (.t 73) (.t 74)), none⟩,
    ⟨(some 76), .op (.loadN 2 (.t 75)), none⟩,
    ⟨(some 77), .op (.mov (.t 0)), none⟩,
    ⟨(some 78), .op (.mov (.t 11)), none⟩,
    ⟨(some 79), .op (.bin .sub (.t 78) (.c (.i .i64 1))), none⟩,
    ⟨(some 80), .op (.iAddrS 2 (.t 77) (.t 79)), none⟩,
    ⟨(some 81), .op (.loadN 2 (.t 80)), none⟩,
    ⟨(some 82), .callV (.t 72) [(.t 76), (.t 81)], none⟩,
    ⟨(some 83), .op (.bin .lss (.t 82) (.c (.i .i64 0))), none⟩,
    ⟨(some 84), .op (.un .not (.t 83)), none⟩])
  (.cond (.t 84) (.exit 4) (.skip)))
  (.reg true [⟨(some 85), .op (.mov (.t 0)), none⟩,
    ⟨(some 86), .op (.mov (.t 11)), none⟩,
    ⟨(some 87), .op (.mov (.t 0)), none⟩,
    ⟨(some 88), .op (.mov (.t 11)), none⟩,
    ⟨(some 89), .op (.bin .sub (.t 88) (.c (.i .i64 1))), none⟩,
    ⟨(some 90), .op (.mov (.t 0)), none⟩,
    ⟨(some 91), .op (.mov (.t 11)), none⟩,
    ⟨(some 92), .op (.bin .sub (.t 91) (.c (.i .i64 1))), none⟩,
    ⟨(some 93), .op (.iAddrS 2 (.t 90) (.t 92)), none⟩,
    ⟨(some 94), .op (.loadN 2 (.t 93)), none⟩,
    ⟨(some 95), .op (.mov (.t 0)), none⟩,
    ⟨(some 96), .op (.mov (.t 11)), none⟩,
    ⟨(some 97), .op (.iAddrS 2 (.t 95) (.t 96)), none⟩,
    ⟨(some 98), .op (.loadN 2 (.t 97)), none⟩,
    ⟨(some 99), .op (.iAddrS 2 (.t 85) (.t 86)), none⟩,
    ⟨none, .op (.store 2 (.t 99) (.t 94)), none⟩,
    ⟨(some 100), .op (.iAddrS 2 (.t 87) (.t 89)), none⟩,
    ⟨none, .op (.store 2 (.t 100) (.t 98)), none⟩])))
  (.reg false [⟨(some 70), .op (.mov (.t 11)), none⟩,
    ⟨(some 71), .op (.bin .sub (.t 70) (.c (.i .i64 1))), none⟩,
    ⟨(some 11), .op (.mov (.t 71)), none⟩])))))) (.skip)))
  (.seq (.reg false [⟨(some 101), .op (.mov (.t 2)), none⟩,
    ⟨(some 102), .op (.mov (.t 9)), none⟩,
    ⟨(some 103), .op (.bin .sub (.t 101) (.t 102)), none⟩,
    ⟨(some 104), .op (.bin .geq (.t 103) (.c (.i .i64 2))), none⟩])
  (.cond (.t 104) (.seq (.reg false [⟨(some 105), .op (.mov (.t 9)), none⟩,
    ⟨(some 106), .op (.bin .add (.t 105) (.c (.i .i64 1))), none⟩,
    ⟨(some 12), .op (.mov (.t 106)), none⟩])
  (.blk 6 (.loop (.seq (.seq (.reg false [⟨(some 107), .op (.mov (.t 12)), none⟩,
    ⟨(some 108), .op (.mov (.t 2)), none⟩,
    ⟨(some 109), .op (.bin .lss (.t 107) (.t 108)), none⟩])
  (.cond (.t 109) (.skip) (.exit 6)))
  (.seq (.blk 7 (.seq (.seq (.reg true [⟨(some 112), .op (.mov (.t 3)), none⟩,
    ⟨(some 113), .op (.mov (.t 0)), none⟩,
    ⟨(some 114), .op (.mov (.t 12)), none⟩,
    ⟨(some 115), .op (.iAddrS 2 (.t 113) (.t 114)), none⟩,
    ⟨(some 116), .op (.loadN 2 (.t 115)), none⟩,
    ⟨(some 117), .op (.mov (.t 0)), none⟩,
    ⟨(some 118), .op (.mov (.t 12)), none⟩,
    ⟨(some 119), .op (.bin .sub (.t 118) (.c (.i .i64 1))), none⟩,
    ⟨(some 120), .op (.iAddrS 2 (.t 117) (.t 119)), none⟩,
    ⟨(some 121), .op (.loadN 2 (.t 120)), none⟩,
    ⟨(some 122), .callV (.t 112) [(.t 116), (.t 121)], none⟩,
    ⟨(some 123), .op (.bin .lss (.t 122) (.c (.i .i64 0))), none⟩,
    ⟨(some 124), .op (.un .not (.t 123)), none⟩])
  (.cond (.t 124) (.exit 6) (.skip)))
  (.reg true [⟨(some 125), .op (.mov (.t 0)), none⟩,
    ⟨(some 126), .op (.mov (.t 12)), none⟩,
    ⟨(some 127), .op (.mov (.t 0)), none⟩,
    ⟨(some 128), .op (.mov (.t 12)), none⟩,
    ⟨(some 129), .op (.bin .sub (.t 128) (.c (.i .i64 1))), none⟩,
    ⟨(some 130), .op (.mov (.t 0)), none⟩,
    ⟨(some 131), .op (.mov (.t 12)), none⟩,
    ⟨(some 132), .op (.bin .sub (.t 131) (.c (.i .i64 1))), none⟩,
    ⟨(some 133), .op (.iAddrS 2 (.t 130) (.t 132)), none⟩,
    ⟨(some 134), .op (.loadN 2 (.t 133)), none⟩,
    ⟨(some 135), .op (.mov (.t 0)), none⟩,
    ⟨(some 136), .op (.mov (.t 12)), none⟩,
    ⟨(some 137), .op (.iAddrS 2 (.t 135) (.t 136)), none⟩,
    ⟨(some 138), .op (.loadN 2 (.t 137)), none⟩,
    ⟨(some 139), .op (.iAddrS 2 (.t 125) (.t 126)), none⟩,
    ⟨none, .op (.store 2 (.t 139) (.t 134)), none⟩,
    ⟨(some 140), .op (.iAddrS 2 (.t 127) (.t 129)), none⟩,
    ⟨none, .op (.store 2 (.t 140) (.t 138)), none⟩])))
  (.reg false [⟨(some 110), .op (.mov (.t 12)), none⟩,
    ⟨(some 111), .op (.bin .add (.t 110) (.c (.i .i64 1))), none⟩,
    ⟨(some 12), .op (.mov (.t 111)), none⟩])))))) (.skip)))))))))
  (.reg false [⟨(some 17), .op (.mov (.t 10)), none⟩,
    ⟨(some 18), .op (.bin .add (.t 17) (.c (.i .i64 1))), none⟩,
    ⟨(some 10), .op (.mov (.t 18)), none⟩]))))))
  (.seq (.reg false [⟨(some 8), .op (.mov (.c (.b false))), none⟩])
  (.ret))))⟩
-- slices.partitionEqualCmpFunc[vestibule/api.Call]
def i63 : IFn := ⟨[.tmp 10],
  .seq (.reg false [⟨(some 10), .op (.mov (.c (.i .i64 0))), none⟩])
  (.seq (.reg true [⟨(some 13), .op (.mov (.t 0)), none⟩,
    ⟨(some 14), .op (.mov (.t 1)), none⟩,
    ⟨(some 15), .op (.mov (.t 0)), none⟩,
    ⟨(some 16), .op (.mov (.t 3)), none⟩,
    ⟨(some 17), .op (.mov (.t 0)), none⟩,
    ⟨(some 18), .op (.mov (.t 3)), none⟩,
    ⟨(some 19), .op (.iAddrS 2 (.t 17) (.t 18)), none⟩,
    ⟨(some 20), .op (.loadN 2 (.t 19)), none⟩,
    ⟨(some 21), .op (.mov (.t 0)), none⟩,
    ⟨(some 22), .op (.mov (.t 1)), none⟩,
    ⟨(some 23), .op (.iAddrS 2 (.t 21) (.t 22)), none⟩,
    ⟨(some 24), .op (.loadN 2 (.t 23)), none⟩,
    ⟨(some 25), .op (.iAddrS 2 (.t 13) (.t 14)), none⟩,
    ⟨none, .op (.store 2 (.t 25) (.t 20)), none⟩,
    ⟨(some 26), .op (.iAddrS 2 (.t 15) (.t 16)), none⟩,
    ⟨none, .op (.store 2 (.t 26) (.t 24)), none⟩])
  (.seq (.reg false [⟨(some 27), .op (.mov (.t 1)), none⟩,
    ⟨(some 28), .op (.bin .add (.t 27) (.c (.i .i64 1))), none⟩,
    ⟨(some 29), .op (.mov (.t 2)), none⟩,
    ⟨(some 30), .op (.bin .sub (.t 29) (.c (.i .i64 1))), none⟩,
    ⟨(some 11), .op (.mov (.t 28)), none⟩,
    ⟨(some 12), .op (.mov (.t 30)), none⟩])
  (.seq (.blk 0 (.loop (.blk 1 (.seq (.blk 2 (.loop (.seq (.seq (.reg true [⟨(some 31), .op (.mov (.t 11)), none⟩,
    ⟨(some 32), .op (.mov (.t 12)), none⟩,
    ⟨(some 33), .op (.bin .leq (.t 31) (.t 32)), none⟩,
    ⟨(some 34), .op (.mov (.t 33)), none⟩,
    ⟨(some 35), .op (.mov (.t 4)), (some (34, true))⟩,
    ⟨(some 36), .op (.mov (.t 0)), (some (34, true))⟩,
    ⟨(some 37), .op (.mov (.t 1)), (some (34, true))⟩,
    ⟨(some 38), .op (.iAddrS 2 (.t 36) (.t 37)), (some (34, true))⟩,
    ⟨(some 39), .op (.loadN 2 (.t 38)), (some (34, true))⟩,
    ⟨(some 40), .op (.mov (.t 0)), (some (34, true))⟩,
    ⟨(some 41), .op (.mov (.t 11)), (some (34, true))⟩,
    ⟨(some 42), .op (.iAddrS 2 (.t 40) (.t 41)), (some (34, true))⟩,
    ⟨(some 43), .op (.loadN 2 (.t 42)), (some (34, true))⟩,
    ⟨(some 44), .callV (.t 35) [(.t 39), (.t 43)], (some (34, true))⟩,
    ⟨(some 45), .op (.bin .lss (.t 44) (.c (.i .i64 0))), (some (34, true))⟩,
    ⟨(some 46), .op (.un .not (.t 45)), (some (34, true))⟩,
    ⟨(some 47), .op (.pick (.t 34) (.t 46) (.c (.b false))), none⟩])
  (.cond (.t 47) (.skip) (.exit 2)))
  (.blk 3 (.reg false [⟨(some 48), .op (.mov (.t 11)), none⟩,
    ⟨(some 49), .op (.bin .add (.t 48) (.c (.i .i64 1))), none⟩,
    ⟨(some 11), .op (.mov (.t 49)), none⟩])))))
  (.seq (.blk 4 (.loop (.seq (.seq (.reg true [⟨(some 50), .op (.mov (.t 11)), none⟩,
    ⟨(some 51), .op (.mov (.t 12)), none⟩,
    ⟨(some 52), .op (.bin .leq (.t 50) (.t 51)), none⟩,
    ⟨(some 53), .op (.mov (.t 52)), none⟩,
    ⟨(some 54), .op (.mov (.t 4)), (some (53, true))⟩,
    ⟨(some 55), .op (.mov (.t 0)), (some (53, true))⟩,
    ⟨(some 56), .op (.mov (.t 1)), (some (53, true))⟩,
    ⟨(some 57), .op (.iAddrS 2 (.t 55) (.t 56)), (some (53, true))⟩,
    ⟨(some 58), .op (.loadN 2 (.t 57)), (some (53, true))⟩,
    ⟨(some 59), .op (.mov (.t 0)), (some (53, true))⟩,
    ⟨(some 60), .op (.mov (.t 12)), (some (53, true))⟩,
    ⟨(some 61), .op (.iAddrS 2 (.t 59) (.t 60)), (some (53, true))⟩,
    ⟨(some 62), .op (.loadN 2 (.t 61)), (some (53, true))⟩,
    ⟨(some 63), .callV (.t 54) [(.t 58), (.t 62)], (some (53, true))⟩,
    ⟨(some 64), .op (.bin .lss (.t 63) (.c (.i .i64 0))), (some (53, true))⟩,
    ⟨(some 65), .op (.pick (.t 53) (.t 64) (.c (.b false))), none⟩])
  (.cond (.t 65) (.skip) (.exit 4)))
  (.blk 5 (.reg false [⟨(some 66), .op (.mov (.t 12)), none⟩,
    ⟨(some 67), .op (.bin .sub (.t 66) (.c (.i .i64 1))), none⟩,
    ⟨(some 12), .op (.mov (.t 67)), none⟩])))))
  (.seq (.seq (.reg false [⟨(some 68), .op (.mov (.t 11)), none⟩,
    ⟨(some 69), .op (.mov (.t 12)), none⟩,
    ⟨(some 70), .op (.bin .gtr (.t 68) (.t 69)), none⟩])
  (.cond (.t 70) (.exit 0) (.skip)))
  (.seq (.reg true [⟨(some 71), .op (.mov (.t 0)), none⟩,
    ⟨(some 72), .op (.mov (.t 11)), none⟩,
    ⟨(some 73), .op (.mov (.t 0)), none⟩,
    ⟨(some 74), .op (.mov (.t 12)), none⟩,
    ⟨(some 75), .op (.mov (.t 0)), none⟩,
    ⟨(some 76), .op (.mov (.t 12)), none⟩,
    ⟨(some 77), .op (.iAddrS 2 (.t 75) (.t 76)), none⟩,
    ⟨(some 78), .op (.loadN 2 (.t 77)), none⟩,
    ⟨(some 79), .op (.mov (.t 0)), none⟩,
    ⟨(some 80), .op (.mov (.t 11)), none⟩,
    ⟨(some 81), .op (.iAddrS 2 (.t 79) (.t 80)), none⟩,
    ⟨(some 82), .op (.loadN 2 (.t 81)), none⟩,
    ⟨(some 83), .op (.iAddrS 2 (.t 71) (.t 72)), none⟩,
    ⟨none, .op (.store 2 (.t 83) (.t 78)), none⟩,
    ⟨(some 84), .op (.iAddrS 2 (.t 73) (.t 74)), none⟩,
    ⟨none, .op (.store 2 (.t 84) (.t 82)), none⟩])
  (.seq (.reg false [⟨(some 85), .op (.mov (.t 11)), none⟩,
    ⟨(some 86), .op (.bin .add (.t 85) (.c (.i .i64 1))), none⟩,
    ⟨(some 11), .op (.mov (.t 86)), none⟩])
  (.reg false [⟨(some 87), .op (.mov (.t 12)), none⟩,
    ⟨(some 88), .op (.bin .sub (.t 87) (.c (.i .i64 1))), none⟩,
    ⟨(some 12), .op (.mov (.t 88)), none⟩])))))))))
  (.seq (.reg false [⟨(some 89), .op (.mov (.t 11)), none⟩,
    ⟨(some 10), .op (.mov (.t 89)), none⟩])
  (.ret)))))⟩
-- slices.partitionCmpFunc[vestibule/api.Call]
def i64 : IFn := ⟨[.tmp 10, .tmp 11],
  .seq (.reg false [⟨(some 10), .op (.mov (.c (.i .i64 0))), none⟩,
    ⟨(some 11), .op (.mov (.c (.b false))), none⟩])
  (.seq (.reg true [⟨(some 14), .op (.mov (.t 0)), none⟩,
    ⟨(some 15), .op (.mov (.t 1)), none⟩,
    ⟨(some 16), .op (.mov (.t 0)), none⟩,
    ⟨(some 17), .op (.mov (.t 3)), none⟩,
    ⟨(some 18), .op (.mov (.t 0)), none⟩,
    ⟨(some 19), .op (.mov (.t 3)), none⟩,
    ⟨(some 20), .op (.iAddrS 2 (.t 18) (.t 19)), none⟩,
    ⟨(some 21), .op (.loadN 2 (.t 20)), none⟩,
    ⟨(some 22), .op (.mov (.t 0)), none⟩,
    ⟨(some 23), .op (.mov (.t 1)), none⟩,
    ⟨(some 24), .op (.iAddrS 2 (.t 22) (.t 23)), none⟩,
    ⟨(some 25), .op (.loadN 2 (.t 24)), none⟩,
    ⟨(some 26), .op (.iAddrS 2 (.t 14) (.t 15)), none⟩,
    ⟨none, .op (.store 2 (.t 26) (.t 21)), none⟩,
    ⟨(some 27), .op (.iAddrS 2 (.t 16) (.t 17)), none⟩,
    ⟨none, .op (.store 2 (.t 27) (.t 25)), none⟩])
  (.seq (.reg false [⟨(some 28), .op (.mov (.t 1)), none⟩,
    ⟨(some 29), .op (.bin .add (.t 28) (.c (.i .i64 1))), none⟩,
    ⟨(some 30), .op (.mov (.t 2)), none⟩,
    ⟨(some 31), .op (.bin .sub (.t 30) (.c (.i .i64 1))), none⟩,
    ⟨(some 12), .op (.mov (.t 29)), none⟩,
    ⟨(some 13), .op (.mov (.t 31)), none⟩])
  (.seq (.blk 0 (.loop (.seq (.seq (.reg true [⟨(some 32), .op (.mov (.t 12)), none⟩,
    ⟨(some 33), .op (.mov (.t 13)), none⟩,
    ⟨(some 34), .op (.bin .leq (.t 32) (.t 33)), none⟩,
    ⟨(some 35), .op (.mov (.t 34)), none⟩,
    ⟨(some 36), .op (.mov (.t 4)), (some (35, true))⟩,
    ⟨(some 37), .op (.mov (.t 0)), (some (35, true))⟩,
    ⟨(some 38), .op (.mov (.t 12)), (some (35, true))⟩,
    ⟨(some 39), .op (.iAddrS 2 (.t 37) (.t 38)), (some (35, true))⟩,
    ⟨(some 40), .op (.loadN 2 (.t 39)), (some (35, true))⟩,
    ⟨(some 41), .op (.mov (.t 0)), (some (35, true))⟩,
    ⟨(some 42), .op (.mov (.t 1)), (some (35, true))⟩,
    ⟨(some 43), .op (.iAddrS 2 (.t 41) (.t 42)), (some (35, true))⟩,
    ⟨(some 44), .op (.loadN 2 (.t 43)), (some (35, true))⟩,
    ⟨(some 45), .callV (.t 36) [(.t 40), (.t 44)], (some (35, true))⟩,
    ⟨(some 46), .op (.bin .lss (.t 45) (.c (.i .i64 0))), (some (35, true))⟩,
    ⟨(some 47), .op (.pick (.t 35) (.t 46) (.c (.b false))), none⟩])
  (.cond (.t 47) (.skip) (.exit 0)))
  (.blk 1 (.reg false [⟨(some 48), .op (.mov (.t 12)), none⟩,
    ⟨(some 49), .op (.bin .add (.t 48) (.c (.i .i64 1))), none⟩,
    ⟨(some 12), .op (.mov (.t 49)), none⟩])))))
  (.seq (.blk 2 (.loop (.seq (.seq (.reg true [⟨(some 50), .op (.mov (.t 12)), none⟩,
    ⟨(some 51), .op (.mov (.t 13)), none⟩,
    ⟨(some 52), .op (.bin .leq (.t 50) (.t 51)), none⟩,
    ⟨(some 53), .op (.mov (.t 52)), none⟩,
    ⟨(some 54), .op (.mov (.t 4)), (some (53, true))⟩,
    ⟨(some 55), .op (.mov (.t 0)), (some (53, true))⟩,
    ⟨(some 56), .op (.mov (.t 13)), (some (53, true))⟩,
    ⟨(some 57), .op (.iAddrS 2 (.t 55) (.t 56)), (some (53, true))⟩,
    ⟨(some 58), .op (.loadN 2 (.t 57)), (some (53, true))⟩,
    ⟨(some 59), .op (.mov (.t 0)), (some (53, true))⟩,
    ⟨(some 60), .op (.mov (.t 1)), (some (53, true))⟩,
    ⟨(some 61), .op (.iAddrS 2 (.t 59) (.t 60)), (some (53, true))⟩,
    ⟨(some 62), .op (.loadN 2 (.t 61)), (some (53, true))⟩,
    ⟨(some 63), .callV (.t 54) [(.t 58), (.t 62)], (some (53, true))⟩,
    ⟨(some 64), .op (.bin .lss (.t 63) (.c (.i .i64 0))), (some (53, true))⟩,
    ⟨(some 65), .op (.un .not (.t 64)), (some (53, true))⟩,
    ⟨(some 66), .op (.pick (.t 53) (.t 65) (.c (.b false))), none⟩])
  (.cond (.t 66) (.skip) (.exit 2)))
  (.blk 3 (.reg false [⟨(some 67), .op (.mov (.t 13)), none⟩,
    ⟨(some 68), .op (.bin .sub (.t 67) (.c (.i .i64 1))), none⟩,
    ⟨(some 13), .op (.mov (.t 68)), none⟩])))))
  (.seq (.seq (.reg false [⟨(some 69), .op (.mov (.t 12)), none⟩,
    ⟨(some 70), .op (.mov (.t 13)), none⟩,
    ⟨(some 71), .op (.bin .gtr (.t 69) (.t 70)), none⟩])
  (.cond (.t 71) (.seq (.reg true [⟨(some 72), .op (.mov (.t 0)), none⟩,
    ⟨(some 73), .op (.mov (.t 13)), none⟩,
    ⟨(some 74), .op (.mov (.t 0)), none⟩,
    ⟨(some 75), .op (.mov (.t 1)), none⟩,
    ⟨(some 76), .op (.mov (.t 0)), none⟩,
    ⟨(some 77), .op (.mov (.t 1)), none⟩,
    ⟨(some 78), .op (.iAddrS 2 (.t 76) (.t 77)), none⟩,
    ⟨(some 79), .op (.loadN 2 (.t 78)), none⟩,
    ⟨(some 80), .op (.mov (.t 0)), none⟩,
    ⟨(some 81), .op (.mov (.t 13)), none⟩,
    ⟨(some 82), .op (.iAddrS 2 (.t 80) (.t 81)), none⟩,
    ⟨(some 83), .op (.loadN 2 (.t 82)), none⟩,
    ⟨(some 84), .op (.iAddrS 2 (.t 72) (.t 73)), none⟩,
    ⟨none, .op (.store 2 (.t 84) (.t 79)), none⟩,
    ⟨(some 85), .op (.iAddrS 2 (.t 74) (.t 75)), none⟩,
    ⟨none, .op (.store 2 (.t 85) (.t 83)), none⟩])
  (.seq (.reg false [⟨(some 86), .op (.mov (.t 13)), none⟩,
    ⟨(some 10), .op (.mov (.t 86)), none⟩,
    ⟨(some 11), .op (.mov (.c (.b true))), none⟩])
  (.ret))) (.skip)))
  (.seq (.reg true [⟨(some 87), .op (.mov (.t 0)), none⟩,
    ⟨(some 88), .op (.mov (.t 12)), none⟩,
    ⟨(some 89), .op (.mov (.t 0)), none⟩,
    ⟨(some 90), .op (.mov (.t 13)), none⟩,
    ⟨(some 91), .op (.mov (.t 0)), none⟩,
    ⟨(some 92), .op (.mov (.t 13)), none⟩,
    ⟨(some 93), .op (.iAddrS 2 (.t 91) (.t 92)), none⟩,
    ⟨(some 94), .op (.loadN 2 (.t 93)), none⟩,
    ⟨(some 95), .op (.mov (.t 0)), none⟩,
    ⟨(some 96), .op (.mov (.t 12)), none⟩,
    ⟨(some 97), .op (.iAddrS 2 (.t 95) (.t 96)), none⟩,
    ⟨(some 98), .op (.loadN 2 (.t 97)), none⟩,
    ⟨(some 99), .op (.iAddrS 2 (.t 87) (.t 88)), none⟩,
    ⟨none, .op (.store 2 (.t 99) (.t 94)), none⟩,
    ⟨(some 100), .op (.iAddrS 2 (.t 89) (.t 90)), none⟩,
    ⟨none, .op (.store 2 (.t 100) (.t 98)), none⟩])
  (.seq (.reg false [⟨(some 101), .op (.mov (.t 12)), none⟩,
    ⟨(some 102), .op (.bin .add (.t 101) (.c (.i .i64 1))), none⟩,
    ⟨(some 12), .op (.mov (.t 102)), none⟩])
  (.seq (.reg false [⟨(some 103), .op (.mov (.t 13)), none⟩,
    ⟨(some 104), .op (.bin .sub (.t 103) (.c (.i .i64 1))), none⟩,
    ⟨(some 13), .op (.mov (.t 104)), none⟩])
  (.seq (.blk 4 (.loop (.blk 5 (.seq (.blk 6 (.loop (.seq (.seq (.reg true [⟨(some 105), .op (.mov (.t 12)), none⟩,
    ⟨(some 106), .op (.mov (.t 13)), none⟩,
    ⟨(some 107), .op (.bin .leq (.t 105) (.t 106)), none⟩,
    ⟨(some 108), .op (.mov (.t 107)), none⟩,
    ⟨(some 109), .op (.mov (.t 4)), (some (108, true))⟩,
    ⟨(some 110), .op (.mov (.t 0)), (some (108, true))⟩,
    ⟨(some 111), .op (.mov (.t 12)), (some (108, true))⟩,
    ⟨(some 112), .op (.iAddrS 2 (.t 110) (.t 111)), (some (108, true))⟩,
    ⟨(some 113), .op (.loadN 2 (.t 112)), (some (108, true))⟩,
    ⟨(some 114), .op (.mov (.t 0)), (some (108, true))⟩,
    ⟨(some 115), .op (.mov (.t 1)), (some (108, true))⟩,
    ⟨(some 116), .op (.iAddrS 2 (.t 114) (.t 115)), (some (108, true))⟩,
    ⟨(some 117), .op (.loadN 2 (.t 116)), (some (108, true))⟩,
    ⟨(some 118), .callV (.t 109) [(.t 113), (.t 117)], (some (108, true))⟩,
    ⟨(some 119), .op (.bin .lss (.t 118) (.c (.i .i64 0))), (some (108, true))⟩,
    ⟨(some 120), .op (.pick (.t 108) (.t 119) (.c (.b false))), none⟩])
  (.cond (.t 120) (.skip) (.exit 6)))
  (.blk 7 (.reg false [⟨(some 121), .op (.mov (.t 12)), none⟩,
    ⟨(some 122), .op (.bin .add (.t 121) (.c (.i .i64 1))), none⟩,
    ⟨(some 12), .op (.mov (.t 122)), none⟩])))))
  (.seq (.blk 8 (.loop (.seq (.seq (.reg true [⟨(some 123), .op (.mov (.t 12)), none⟩,
    ⟨(some 124), .op (.mov (.t 13)), none⟩,
    ⟨(some 125), .op (.bin .leq (.t 123) (.t 124)), none⟩,
    ⟨(some 126), .op (.mov (.t 125)), none⟩,
    ⟨(some 127), .op (.mov (.t 4)), (some (126, true))⟩,
    ⟨(some 128), .op (.mov (.t 0)), (some (126, true))⟩,
    ⟨(some 129), .op (.mov (.t 13)), (some (126, true))⟩,
    ⟨(some 130), .op (.iAddrS 2 (.t 128) (.t 129)), (some (126, true))⟩,
    ⟨(some 131), .op (.loadN 2 (.t 130)), (some (126, true))⟩,
    ⟨(some 132), .op (.mov (.t 0)), (some (126, true))⟩,
    ⟨(some 133), .op (.mov (.t 1)), (some (126, true))⟩,
    ⟨(some 134), .op (.iAddrS 2 (.t 132) (.t 133)), (some (126, true))⟩,
    ⟨(some 135), .op (.loadN 2 (.t 134)), (some (126, true))⟩,
    ⟨(some 136), .callV (.t 127) [(.t 131), (.t 135)], (some (126, true))⟩,
    ⟨(some 137), .op (.bin .lss (.t 136) (.c (.i .i64 0))), (some (126, true))⟩,
    ⟨(some 138), .op (.un .not (.t 137)), (some (126, true))⟩,
    ⟨(some 139), .op (.pick (.t 126) (.t 138) (.c (.b false))), none⟩])
  (.cond (.t 139) (.skip) (.exit 8)))
  (.blk 9 (.reg false [⟨(some 140), .op (.mov (.t 13)), none⟩,
    ⟨(some 141), .op (.bin .sub (.t 140) (.c (.i .i64 1))), none⟩,
    ⟨(some 13), .op (.mov (.t 141)), none⟩])))))
  (.seq (.seq (.reg false [⟨(some 142), .op (.mov (.t 12)), none⟩,
    ⟨(some 143), .op (.mov (.t 13)), none⟩,
    ⟨(some 144), .op (.bin .gtr (.t 142) (.t 143)), none⟩])
  (.cond (.t 144) (.exit 4) (.skip)))
  (.seq (.reg true [⟨(some 145), .op (.mov (.t 0)), none⟩,
    ⟨(some 146), .op (.mov (.t 12)), none⟩,
    ⟨(some 147), .op (.mov (.t 0)), none⟩,
    ⟨(some 148), .op (.mov (.t 13)), none⟩,
    ⟨(some 149), .op (.mov (.t 0)), none⟩,
    ⟨(some 150), .op (.mov (.t 13)), none⟩,
    ⟨(some 151), .op (.iAddrS 2 (.t 149) (.t 150)), none⟩,
    ⟨(some 152), .op (.loadN 2 (.t 151)), none⟩,
    ⟨(some 153), .op (.mov (.t 0)), none⟩,
    ⟨(some 154), .op (.mov (.t 12)), none⟩,
    ⟨(some 155), .op (.iAddrS 2 (.t 153) (.t 154)), none⟩,
    ⟨(some 156), .op (.loadN 2 (.t 155)), none⟩,
    ⟨(some 157), .op (.iAddrS 2 (.t 145) (.t 146)), none⟩,
    ⟨none, .op (.store 2 (.t 157) (.t 152)), none⟩,
    ⟨(some 158), .op (.iAddrS 2 (.t 147) (.t 148)), none⟩,
    ⟨none, .op (.store 2 (.t 158) (.t 156)), none⟩])
  (.seq (.reg false [⟨(some 159), .op (.mov (.t 12)), none⟩,
    ⟨(some 160), .op (.bin .add (.t 159) (.c (.i .i64 1))), none⟩,
    ⟨(some 12), .op (.mov (.t 160)), none⟩])
  (.reg false [⟨(some 161), .op (.mov (.t 13)), none⟩,
    ⟨(some 162), .op (.bin .sub (.t 161) (.c (.i .i64 1))), none⟩,
    ⟨(some 13), .op (.mov (.t 162)), none⟩])))))))))
  (.seq (.reg true [⟨(some 163), .op (.mov (.t 0)), none⟩,
    ⟨(some 164), .op (.mov (.t 13)), none⟩,
    ⟨(some 165), .op (.mov (.t 0)), none⟩,
    ⟨(some 166), .op (.mov (.t 1)), none⟩,
    ⟨(some 167), .op (.mov (.t 0)), none⟩,
    ⟨(some 168), .op (.mov (.t 1)), none⟩,
    ⟨(some 169), .op (.iAddrS 2 (.t 167) (.t 168)), none⟩,
    ⟨(some 170), .op (.loadN 2 (.t 169)), none⟩,
    ⟨(some 171), .op (.mov (.t 0)), none⟩,
    ⟨(some 172), .op (.mov (.t 13)), none⟩,
    ⟨(some 173), .op (.iAddrS 2 (.t 171) (.t 172)), none⟩,
    ⟨(some 174), .op (.loadN 2 (.t 173)), none⟩,
    ⟨(some 175), .op (.iAddrS 2 (.t 163) (.t 164)), none⟩,
    ⟨none, .op (.store 2 (.t 175) (.t 170)), none⟩,
    ⟨(some 176), .op (.iAddrS 2 (.t 165) (.t 166)), none⟩,
    ⟨none, .op (.store 2 (.t 176) (.t 174)), none⟩])
  (.seq (.reg false [⟨(some 177), .op (.mov (.t 13)), none⟩,
    ⟨(some 10), .op (.mov (.t 177)), none⟩,
    ⟨(some 11), .op (.mov (.c (.b false))), none⟩])
  (.ret))))))))))))⟩
-- math/bits.Len32
def i65 : IFn := ⟨[.tmp 2],
  .seq (.reg false [⟨(some 2), .op (.mov (.c (.i .i64 0))), none⟩])
  (.seq (.seq (.reg false [⟨(some 3), .op (.mov (.t 0)), none⟩,
    ⟨(some 4), .op (.bin .geq (.t 3) (.c (.i .u32 65536))), none⟩])
  (.cond (.t 4) (.seq (.reg false [⟨(some 5), .op (.mov (.t 0)), none⟩,
    ⟨(some 6), .op (.bin .shr (.t 5) (.c (.i .u64 16))), none⟩,
    ⟨(some 0), .op (.mov (.t 6)), none⟩])
  (.reg false [⟨(some 2), .op (.mov (.c (.i .i64 16))), none⟩])) (.skip)))
  (.seq (.seq (.reg false [⟨(some 7), .op (.mov (.t 0)), none⟩,
    ⟨(some 8), .op (.bin .geq (.t 7) (.c (.i .u32 256))), none⟩])
  (.cond (.t 8) (.seq (.reg false [⟨(some 9), .op (.mov (.t 0)), none⟩,
    ⟨(some 10), .op (.bin .shr (.t 9) (.c (.i .u64 8))), none⟩,
    ⟨(some 0), .op (.mov (.t 10)), none⟩])
  (.reg false [⟨(some 11), .op (.mov (.t 2)), none⟩,
    ⟨(some 12), .op (.bin .add (.t 11) (.c (.i .i64 8))), none⟩,
    ⟨(some 2), .op (.mov (.t 12)), none⟩])) (.skip)))
  (.seq (.reg false [⟨(some 13), .op (.mov (.t 2)), none⟩,
    ⟨(some 14), .op (.mov (.t 0)), none⟩,
    ⟨(some 15), .op (.cvInt .u8 (.t 14)), none⟩,
    ⟨(some 16), .op (.idxS (.c (.s [0, 1, 2, 2, 3, 3, 3, 3, 4, 4, 4, 4, 4, 4, 4, 4, 5, 5, 5, 5, 5, 5, 5, 5, 5, 5, 5, 5, 5, 5, 5, 5, 6, 6, 6, 6, 6, 6, 6, 6, 6, 6, 6, 6, 6, 6, 6, 6, 6, 6, 6, 6, 6, 6, 6, 6, 6, 6, 6, 6, 6, 6, 6, 6, 7, 7, 7, 7, 7, 7, 7, 7, 7, 7, 7, 7, 7, 7, 7, 7, 7, 7, 7, 7, 7, 7, 7, 7, 7, 7, 7, 7, 7, 7, 7, 7, 7, 7, 7, 7, 7, 7, 7, 7, 7, 7, 7, 7, 7, 7, 7, 7, 7, 7, 7, 7, 7, 7, 7, 7, 7, 7, 7, 7, 7, 7, 7, 7, 8, 8, 8, 8, 8, 8, 8, 8, 8, 8, 8, 8, 8, 8, 8, 8, 8, 8, 8, 8, 8, 8, 8, 8, 8, 8, 8, 8, 8, 8, 8, 8, 8, 8, 8, 8, 8, 8, 8, 8, 8, 8, 8, 8, 8, 8, 8, 8, 8, 8, 8, 8, 8, 8, 8, 8, 8, 8, 8, 8, 8, 8, 8, 8, 8, 8, 8, 8, 8, 8, 8, 8, 8, 8, 8, 8, 8, 8, 8, 8, 8, 8, 8, 8, 8, 8, 8, 8, 8, 8, 8, 8, 8, 8, 8, 8, 8, 8, 8, 8, 8, 8, 8, 8, 8, 8, 8, 8, 8, 8, 8, 8, 8, 8, 8, 8, 8, 8, 8, 8, 8, 8, 8, 8, 8, 8, 8, 8])) (.t 15)), none⟩,
    ⟨(some 17), .op (.cvInt .i64 (.t 16)), none⟩,
    ⟨(some 18), .op (.bin .add (.t 13) (.t 17)), none⟩,
    ⟨(some 2), .op (.mov (.t 18)), none⟩])
  (.ret))))⟩
-- math/bits.Len64
def i66 : IFn := ⟨[.tmp 2],
  .seq (.reg false [⟨(some 2), .op (.mov (.c (.i .i64 0))), none⟩])
  (.seq (.seq (.reg false [⟨(some 3), .op (.mov (.t 0)), none⟩,
    ⟨(some 4), .op (.bin .geq (.t 3) (.c (.i .u64 4294967296))), none⟩])
  (.cond (.t 4) (.seq (.reg false [⟨(some 5), .op (.mov (.t 0)), none⟩,
    ⟨(some 6), .op (.bin .shr (.t 5) (.c (.i .u64 32))), none⟩,
    ⟨(some 0), .op (.mov (.t 6)), none⟩])
  (.reg false [⟨(some 2), .op (.mov (.c (.i .i64 32))), none⟩])) (.skip)))
  (.seq (.seq (.reg false [⟨(some 7), .op (.mov (.t 0)), none⟩,
    ⟨(some 8), .op (.bin .geq (.t 7) (.c (.i .u64 65536))), none⟩])
  (.cond (.t 8) (.seq (.reg false [⟨(some 9), .op (.mov (.t 0)), none⟩,
    ⟨(some 10), .op (.bin .shr (.t 9) (.c (.i .u64 16))), none⟩,
    ⟨(some 0), .op (.mov (.t 10)), none⟩])
  (.reg false [⟨(some 11), .op (.mov (.t 2)), none⟩,
    ⟨(some 12), .op (.bin .add (.t 11) (.c (.i .i64 16))), none⟩,
    ⟨(some 2), .op (.mov (.t 12)), none⟩])) (.skip)))
  (.seq (.seq (.reg false [⟨(some 13), .op (.mov (.t 0)), none⟩,
    ⟨(some 14), .op (.bin .geq (.t 13) (.c (.i .u64 256))), none⟩])
  (.cond (.t 14) (.seq (.reg false [⟨(some 15), .op (.mov (.t 0)), none⟩,
    ⟨(some 16), .op (.bin .shr (.t 15) (.c (.i .u64 8))), none⟩,
    ⟨(some 0), .op (.mov (.t 16)), none⟩])
  (.reg false [⟨(some 17), .op (.mov (.t 2)), none⟩,
    ⟨(some 18), .op (.bin .add (.t 17) (.c (.i .i64 8))), none⟩,
    ⟨(some 2), .op (.mov (.t 18)), none⟩])) (.skip)))
  (.seq (.reg false [⟨(some 19), .op (.mov (.t 2)), none⟩,
    ⟨(some 20), .op (.mov (.t 0)), none⟩,
    ⟨(some 21), .op (.cvInt .u8 (.t 20)), none⟩,
    ⟨(some 22), .op (.idxS (.c (.s [0, 1, 2, 2, 3, 3, 3, 3, 4, 4, 4, 4, 4, 4, 4, 4, 5, 5, 5, 5, 5, 5, 5, 5, 5, 5, 5, 5, 5, 5, 5, 5, 6, 6, 6, 6, 6, 6, 6, 6, 6, 6, 6, 6, 6, 6, 6, 6, 6, 6, 6, 6, 6, 6, 6, 6, 6, 6, 6, 6, 6, 6, 6, 6, 7, 7, 7, 7, 7, 7, 7, 7, 7, 7, 7, 7, 7, 7, 7, 7, 7, 7, 7, 7, 7, 7, 7, 7, 7, 7, 7, 7, 7, 7, 7, 7, 7, 7, 7, 7, 7, 7, 7, 7, 7, 7, 7, 7, 7, 7, 7, 7, 7, 7, 7, 7, 7, 7, 7, 7, 7, 7, 7, 7, 7, 7, 7, 7, 8, 8, 8, 8, 8, 8, 8, 8, 8, 8, 8, 8, 8, 8, 8, 8, 8, 8, 8, 8, 8, 8, 8, 8, 8, 8, 8, 8, 8, 8, 8, 8, 8, 8, 8, 8, 8, 8, 8, 8, 8, 8, 8, 8, 8, 8, 8, 8, 8, 8, 8, 8, 8, 8, 8, 8, 8, 8, 8, 8, 8, 8, 8, 8, 8, 8, 8, 8, 8, 8, 8, 8, 8, 8, 8, 8, 8, 8, 8, 8, 8, 8, 8, 8, 8, 8, 8, 8, 8, 8, 8, 8, 8, 8, 8, 8, 8, 8, 8, 8, 8, 8, 8, 8, 8, 8, 8, 8, 8, 8, 8, 8, 8, 8, 8, 8, 8, 8, 8, 8, 8, 8, 8, 8, 8, 8, 8, 8])) (.t 21)), none⟩,
    ⟨(some 23), .op (.cvInt .i64 (.t 22)), none⟩,
    ⟨(some 24), .op (.bin .add (.t 19) (.t 23)), none⟩,
    ⟨(some 2), .op (.mov (.t 24)), none⟩])
  (.ret)))))⟩
-- slices.insertionSortOrdered[string]
def i67 : IFn := ⟨[],
  .seq (.reg false [⟨(some 8), .op (.mov (.t 1)), none⟩,
    ⟨(some 9), .op (.bin .add (.t 8) (.c (.i .i64 1))), none⟩,
    ⟨(some 6), .op (.mov (.t 9)), none⟩])
  (.blk 0 (.loop (.seq (.seq (.reg false [⟨(some 10), .op (.mov (.t 6)), none⟩,
    ⟨(some 11), .op (.mov (.t 2)), none⟩,
    ⟨(some 12), .op (.bin .lss (.t 10) (.t 11)), none⟩])
  (.cond (.t 12) (.skip) (.exit 0)))
  (.seq (.blk 1 (.seq (.reg false [⟨(some 15), .op (.mov (.t 6)), none⟩,
    ⟨(some 7), .op (.mov (.t 15)), none⟩])
  (.blk 2 (.loop (.seq (.seq (.reg true [⟨(some 16), .op (.mov (.t 7)), none⟩,
    ⟨(some 17), .op (.mov (.t 1)), none⟩,
    ⟨(some 18), .op (.bin .gtr (.t 16) (.t 17)), none⟩,
    ⟨(some 19), .op (.mov (.t 18)), none⟩,
    ⟨(some 20), .op (.mov (.t 0)), (some (19, true))⟩,
    ⟨(some 21), .op (.mov (.t 7)), (some (19, true))⟩,
    ⟨(some 22), .op (.iAddrS 1 (.t 20) (.t 21)), (some (19, true))⟩,
    ⟨(some 23), .op (.load1 (.t 22)), (some (19, true))⟩,
    ⟨(some 24), .op (.mov (.t 0)), (some (19, true))⟩,
    ⟨(some 25), .op (.mov (.t 7)), (some (19, true))⟩,
    ⟨(some 26), .op (.bin .sub (.t 25) (.c (.i .i64 1))), (some (19, true))⟩,
    ⟨(some 27), .op (.iAddrS 1 (.t 24) (.t 26)), (some (19, true))⟩,
    ⟨(some 28), .op (.load1 (.t 27)), (some (19, true))⟩,
    ⟨(some 29), .callF 73 [(.t 23), (.t 28)], (some (19, true))⟩,
    ⟨(some 30), .op (.pick (.t 19) (.t 29) (.c (.b false))), none⟩])
  (.cond (.t 30) (.skip) (.exit 2)))
  (.seq (.blk 3 (.reg true [⟨(some 33), .op (.mov (.t 0)), none⟩,
    ⟨(some 34), .op (.mov (.t 7)), none⟩,
    ⟨(some 35), .op (.mov (.t 0)), none⟩,
    ⟨(some 36), .op (.mov (.t 7)), none⟩,
    ⟨(some 37), .op (.bin .sub (.t 36) (.c (.i .i64 1))), none⟩,
    ⟨(some 38), .op (.mov (.t 0)), none⟩,
    ⟨(some 39), .op (.mov (.t 7)), none⟩,
    ⟨(some 40), .op (.bin .sub (.t 39) (.c (.i .i64 1))), none⟩,
    ⟨(some 41), .op (.iAddrS 1 (.t 38) (.t 40)), none⟩,
    ⟨(some 42), .op (.load1 (.t 41)), none⟩,
    ⟨(some 43), .op (.mov (.t 0)), none⟩,
    ⟨(some 44), .op (.mov (.t 7)), none⟩,
    ⟨(some 45), .op (.iAddrS 1 (.t 43) (.t 44)), none⟩,
    ⟨(some 46), .op (.load1 (.t 45)), none⟩,
    ⟨(some 47), .op (.iAddrS 1 (.t 33) (.t 34)), none⟩,
    ⟨none, .op (.store 1 (.t 47) (.t 42)), none⟩,
    ⟨(some 48), .op (.iAddrS 1 (.t 35) (.t 37)), none⟩,
    ⟨none, .op (.store 1 (.t 48) (.t 46)), none⟩]))
  (.reg false [⟨(some 31), .op (.mov (.t 7)), none⟩,
    ⟨(some 32), .op (.bin .sub (.t 31) (.c (.i .i64 1))), none⟩,
    ⟨(some 7), .op (.mov (.t 32)), none⟩])))))))
  (.reg false [⟨(some 13), .op (.mov (.t 6)), none⟩,
    ⟨(some 14), .op (.bin .add (.t 13) (.c (.i .i64 1))), none⟩,
    ⟨(some 6), .op (.mov (.t 14)), none⟩])))))⟩
-- slices.heapSortOrdered[string]
def i68 : IFn := ⟨[],
  .seq (.reg false [⟨(some 11), .op (.mov (.t 1)), none⟩,
    ⟨(some 6), .op (.mov (.t 11)), none⟩])
  (.seq (.reg false [⟨(some 7), .op (.mov (.c (.i .i64 0))), none⟩])
  (.seq (.reg false [⟨(some 12), .op (.mov (.t 2)), none⟩,
    ⟨(some 13), .op (.mov (.t 1)), none⟩,
    ⟨(some 14), .op (.bin .sub (.t 12) (.t 13)), none⟩,
    ⟨(some 8), .op (.mov (.t 14)), none⟩])
  (.seq (.seq (.reg false [⟨(some 15), .op (.mov (.t 8)), none⟩,
    ⟨(some 16), .op (.bin .sub (.t 15) (.c (.i .i64 1))), none⟩,
    ⟨(some 17), .op (.bin .quo (.t 16) (.c (.i .i64 2))), none⟩,
    ⟨(some 9), .op (.mov (.t 17)), none⟩])
  (.blk 0 (.loop (.seq (.seq (.reg false [⟨(some 18), .op (.mov (.t 9)), none⟩,
    ⟨(some 19), .op (.bin .geq (.t 18) (.c (.i .i64 0))), none⟩])
  (.cond (.t 19) (.skip) (.exit 0)))
  (.seq (.blk 1 (.reg false [⟨(some 22), .op (.mov (.t 0)), none⟩,
    ⟨(some 23), .op (.mov (.t 9)), none⟩,
    ⟨(some 24), .op (.mov (.t 8)), none⟩,
    ⟨(some 25), .op (.mov (.t 6)), none⟩,
    ⟨(some 26), .callF 81 [(.t 22), (.t 23), (.t 24), (.t 25)], none⟩]))
  (.reg false [⟨(some 20), .op (.mov (.t 9)), none⟩,
    ⟨(some 21), .op (.bin .sub (.t 20) (.c (.i .i64 1))), none⟩,
    ⟨(some 9), .op (.mov (.t 21)), none⟩]))))))
  (.seq (.reg false [⟨(some 27), .op (.mov (.t 8)), none⟩,
    ⟨(some 28), .op (.bin .sub (.t 27) (.c (.i .i64 1))), none⟩,
    ⟨(some 10), .op (.mov (.t 28)), none⟩])
  (.blk 2 (.loop (.seq (.seq (.reg false [⟨(some 29), .op (.mov (.t 10)), none⟩,
    ⟨(some 30), .op (.bin .geq (.t 29) (.c (.i .i64 0))), none⟩])
  (.cond (.t 30) (.skip) (.exit 2)))
  (.seq (.blk 3 (.seq (.reg true [⟨(some 33), .op (.mov (.t 0)), none⟩,
    ⟨(some 34), .op (.mov (.t 6)), none⟩,
    ⟨(some 35), .op (.mov (.t 0)), none⟩,
    ⟨(some 36), .op (.mov (.t 6)), none⟩,
    ⟨(some 37), .op (.mov (.t 10)), none⟩,
    ⟨(some 38), .op (.bin .add (.t 36) (.t 37)), none⟩,
    ⟨(some 39), .op (.mov (.t 0)), none⟩,
    ⟨(some 40), .op (.mov (.t 6)), none⟩,
    ⟨(some 41), .op (.mov (.t 10)), none⟩,
    ⟨(some 42), .op (.bin .add (.t 40) (.t 41)), none⟩,
    ⟨(some 43), .op (.iAddrS 1 (.t 39) (.t 42)), none⟩,
    ⟨(some 44), .op (.load1 (.t 43)), none⟩,
    ⟨(some 45), .op (.mov (.t 0)), none⟩,
    ⟨(some 46), .op (.mov (.t 6)), none⟩,
    ⟨(some 47), .op (.iAddrS 1 (.t 45) (.t 46)), none⟩,
    ⟨(some 48), .op (.load1 (.t 47)), none⟩,
    ⟨(some 49), .op (.iAddrS 1 (.t 33) (.t 34)), none⟩,
    ⟨none, .op (.store 1 (.t 49) (.t 44)), none⟩,
    ⟨(some 50), .op (.iAddrS 1 (.t 35) (.t 38)), none⟩,
    ⟨none, .op (.store 1 (.t 50) (.t 48)), none⟩])
  (.reg false [⟨(some 51), .op (.mov (.t 0)), none⟩,
    ⟨(some 52), .op (.mov (.t 7)), none⟩,
    ⟨(some 53), .op (.mov (.t 10)), none⟩,
    ⟨(some 54), .op (.mov (.t 6)), none⟩,
    ⟨(some 55), .callF 81 [(.t 51), (.t 52), (.t 53), (.t 54)], none⟩])))
  (.reg false [⟨(some 31), .op (.mov (.t 10)), none⟩,
    ⟨(some 32), .op (.bin .sub (.t 31) (.c (.i .i64 1))), none⟩,
    ⟨(some 10), .op (.mov (.t 32)), none⟩])))))))))⟩
-- slices.breakPatternsOrdered[string]
def i69 : IFn := ⟨[],
  .seq (.reg false [⟨(some 11), .op (.mov (.t 2)), none⟩,
    ⟨(some 12), .op (.mov (.t 1)), none⟩,
    ⟨(some 13), .op (.bin .sub (.t 11) (.t 12)), none⟩,
    ⟨(some 6), .op (.mov (.t 13)), none⟩])
  (.seq (.reg false [⟨(some 14), .op (.mov (.t 6)), none⟩,
    ⟨(some 15), .op (.bin .geq (.t 14) (.c (.i .i64 8))), none⟩])
  (.cond (.t 15) (.seq (.reg false [⟨(some 16), .op (.mov (.t 6)), none⟩,
    ⟨(some 17), .op (.cvInt .u64 (.t 16)), none⟩,
    ⟨(some 7), .op (.alloc [.i .u64 0]), none⟩,
    ⟨none, .op (.store 1 (.t 7) (.t 17)), none⟩])
  (.seq (.reg false [⟨(some 18), .op (.mov (.t 6)), none⟩,
    ⟨(some 19), .callF 77 [(.t 18)], none⟩,
    ⟨(some 8), .op (.mov (.t 19)), none⟩])
  (.seq (.reg false [⟨(some 20), .op (.mov (.t 1)), none⟩,
    ⟨(some 21), .op (.mov (.t 6)), none⟩,
    ⟨(some 22), .op (.bin .quo (.t 21) (.c (.i .i64 4))), none⟩,
    ⟨(some 23), .op (.bin .mul (.t 22) (.c (.i .i64 2))), none⟩,
    ⟨(some 24), .op (.bin .add (.t 20) (.t 23)), none⟩,
    ⟨(some 25), .op (.bin .sub (.t 24) (.c (.i .i64 1))), none⟩,
    ⟨(some 9), .op (.mov (.t 25)), none⟩])
  (.blk 0 (.loop (.seq (.seq (.reg false [⟨(some 26), .op (.mov (.t 9)), none⟩,
    ⟨(some 27), .op (.mov (.t 1)), none⟩,
    ⟨(some 28), .op (.mov (.t 6)), none⟩,
    ⟨(some 29), .op (.bin .quo (.t 28) (.c (.i .i64 4))), none⟩,
    ⟨(some 30), .op (.bin .mul (.t 29) (.c (.i .i64 2))), none⟩,
    ⟨(some 31), .op (.bin .add (.t 27) (.t 30)), none⟩,
    ⟨(some 32), .op (.bin .add (.t 31) (.c (.i .i64 1))), none⟩,
    ⟨(some 33), .op (.bin .leq (.t 26) (.t 32)), none⟩])
  (.cond (.t 33) (.skip) (.exit 0)))
  (.seq (.blk 1 (.seq (.reg false [⟨(some 36), .callF 78 [(.t 7)], none⟩,
    ⟨(some 37), .op (.mov (.t 8)), none⟩,
    ⟨(some 38), .op (.bin .sub (.t 37) (.c (.i .u64 1))), none⟩,
    ⟨(some 39), .op (.bin .and (.t 36) (.t 38)), none⟩,
    ⟨(some 40), .op (.cvInt .i64 (.t 39)), none⟩,
    ⟨(some 10), .op (.mov (.t 40)), none⟩])
  (.seq (.seq (.reg false [⟨(some 41), .op (.mov (.t 10)), none⟩,
    ⟨(some 42), .op (.mov (.t 6)), none⟩,
    ⟨(some 43), .op (.bin .geq (.t 41) (.t 42)), none⟩])
  (.cond (.t 43) (.reg false [⟨(some 44), .op (.mov (.t 10)), none⟩,
    ⟨(some 45), .op (.mov (.t 6)), none⟩,
    ⟨(some 46), .op (.bin .sub (.t 44) (.t 45)), none⟩,
    ⟨(some 10), .op (.mov (.t 46)), none⟩]) (.skip)))
  (.reg true [⟨(some 47), .op (.mov (.t 0)), none⟩,
    ⟨(some 48), .op (.mov (.t 9)), none⟩,
    ⟨(some 49), .op (.mov (.t 0)), none⟩,
    ⟨(some 50), .op (.mov (.t 1)), none⟩,
    ⟨(some 51), .op (.mov (.t 10)), none⟩,
    ⟨(some 52), .op (.bin .add (.t 50) (.t 51)), none⟩,
    ⟨(some 53), .op (.mov (.t 0)), none⟩,
    ⟨(some 54), .op (.mov (.t 1)), none⟩,
    ⟨(some 55), .op (.mov (.t 10)), none⟩,
    ⟨(some 56), .op (.bin .add (.t 54) (.t 55)), none⟩,
    ⟨(some 57), .op (.iAddrS 1 (.t 53) (.t 56)), none⟩,
    ⟨(some 58), .op (.load1 (.t 57)), none⟩,
    ⟨(some 59), .op (.mov (.t 0)), none⟩,
    ⟨(some 60), .op (.mov (.t 9)), none⟩,
    ⟨(some 61), .op (.iAddrS 1 (.t 59) (.t 60)), none⟩,
    ⟨(some 62), .op (.load1 (.t 61)), none⟩,
    ⟨(some 63), .op (.iAddrS 1 (.t 47) (.t 48)), none⟩,
    ⟨none, .op (.store 1 (.t 63) (.t 58)), none⟩,
    ⟨(some 64), .op (.iAddrS 1 (.t 49) (.t 52)), none⟩,
    ⟨none, .op (.store 1 (.t 64) (.t 62)), none⟩]))))
  (.reg false [⟨(some 34), .op (.mov (.t 9)), none⟩,
    ⟨(some 35), .op (.bin .add (.t 34) (.c (.i .i64 1))), none⟩,
    ⟨(some 9), .op (.mov (.t 35)), none⟩])))))))) (.skip)))⟩
-- slices.choosePivotOrdered[string]
def i70 : IFn := ⟨[.tmp 6, .tmp 7],
  .seq (.reg false [⟨(some 6), .op (.mov (.c (.i .i64 0))), none⟩,
    ⟨(some 7), .op (.mov (.c (.i .i64 0))), none⟩])
  (.seq (.reg false [⟨(some 13), .op (.mov (.t 2)), none⟩,
    ⟨(some 14), .op (.mov (.t 1)), none⟩,
    ⟨(some 15), .op (.bin .sub (.t 13) (.t 14)), none⟩,
    ⟨(some 8), .op (.mov (.t 15)), none⟩])
  (.seq (.reg false [⟨(some 9), .op (.alloc [.i .i64 0]), none⟩])
  (.seq (.reg false [⟨(some 16), .op (.mov (.t 1)), none⟩,
    ⟨(some 17), .op (.mov (.t 8)), none⟩,
    ⟨(some 18), .op (.bin .quo (.t 17) (.c (.i .i64 4))), none⟩,
    ⟨(some 19), .op (.bin .mul (.t 18) (.c (.i .i64 1))), none⟩,
    ⟨(some 20), .op (.bin .add (.t 16) (.t 19)), none⟩,
    ⟨(some 10), .op (.mov (.t 20)), none⟩])
  (.seq (.reg false [⟨(some 21), .op (.mov (.t 1)), none⟩,
    ⟨(some 22), .op (.mov (.t 8)), none⟩,
    ⟨(some 23), .op (.bin .quo (.t 22) (.c (.i .i64 4))), none⟩,
    ⟨(some 24), .op (.bin .mul (.t 23) (.c (.i .i64 2))), none⟩,
    ⟨(some 25), .op (.bin .add (.t 21) (.t 24)), none⟩,
    ⟨(some 11), .op (.mov (.t 25)), none⟩])
  (.seq (.reg false [⟨(some 26), .op (.mov (.t 1)), none⟩,
    ⟨(some 27), .op (.mov (.t 8)), none⟩,
    ⟨(some 28), .op (.bin .quo (.t 27) (.c (.i .i64 4))), none⟩,
    ⟨(some 29), .op (.bin .mul (.t 28) (.c (.i .i64 3))), none⟩,
    ⟨(some 30), .op (.bin .add (.t 26) (.t 29)), none⟩,
    ⟨(some 12), .op (.mov (.t 30)), none⟩])
  (.seq (.seq (.reg false [⟨(some 31), .op (.mov (.t 8)), none⟩,
    ⟨(some 32), .op (.bin .geq (.t 31) (.c (.i .i64 8))), none⟩])
  (.cond (.t 32) (.seq (.seq (.reg false [⟨(some 33), .op (.mov (.t 8)), none⟩,
    ⟨(some 34), .op (.bin .geq (.t 33) (.c (.i .i64 50))), none⟩])
  (.cond (.t 34) (.seq (.reg false [⟨(some 35), .op (.mov (.t 0)), none⟩,
    ⟨(some 36), .op (.mov (.t 10)), none⟩,
    ⟨(some 37), .callF 82 [(.t 35), (.t 36), (.t 9)], none⟩,
    ⟨(some 10), .op (.mov (.t 37)), none⟩])
  (.seq (.reg false [⟨(some 38), .op (.mov (.t 0)), none⟩,
    ⟨(some 39), .op (.mov (.t 11)), none⟩,
    ⟨(some 40), .callF 82 [(.t 38), (.t 39), (.t 9)], none⟩,
    ⟨(some 11), .op (.mov (.t 40)), none⟩])
  (.reg false [⟨(some 41), .op (.mov (.t 0)), none⟩,
    ⟨(some 42), .op (.mov (.t 12)), none⟩,
    ⟨(some 43), .callF 82 [(.t 41), (.t 42), (.t 9)], none⟩,
    ⟨(some 12), .op (.mov (.t 43)), none⟩]))) (.skip)))
  (.reg false [⟨(some 44), .op (.mov (.t 0)), none⟩,
    ⟨(some 45), .op (.mov (.t 10)), none⟩,
    ⟨(some 46), .op (.mov (.t 11)), none⟩,
    ⟨(some 47), .op (.mov (.t 12)), none⟩,
    ⟨(some 48), .callF 83 [(.t 44), (.t 45), (.t 46), (.t 47), (.t 9)], none⟩,
    ⟨(some 11), .op (.mov (.t 48)), none⟩])) (.skip)))
  (.seq (.reg false [⟨(some 49), .op (.load1 (.t 9)), none⟩])
  (.blk 0 (.seq (.reg false [⟨(some 52), .op (.bin .eql (.t 49) (.c (.i .i64 0))), none⟩,
    ⟨(some 51), .op (.mov (.t 52)), none⟩])
  (.cond (.t 51) (.seq (.reg false [⟨(some 53), .op (.mov (.t 11)), none⟩,
    ⟨(some 6), .op (.mov (.t 53)), none⟩,
    ⟨(some 7), .op (.mov (.c (.i .i64 1))), none⟩])
  (.ret)) (.seq (.reg false [⟨(some 55), .op (.bin .eql (.t 49) (.c (.i .i64 12))), none⟩,
    ⟨(some 54), .op (.mov (.t 55)), none⟩])
  (.cond (.t 54) (.seq (.reg false [⟨(some 56), .op (.mov (.t 11)), none⟩,
    ⟨(some 6), .op (.mov (.t 56)), none⟩,
    ⟨(some 7), .op (.mov (.c (.i .i64 2))), none⟩])
  (.ret)) (.seq (.reg false [⟨(some 50), .op (.mov (.t 11)), none⟩,
    ⟨(some 6), .op (.mov (.t 50)), none⟩,
    ⟨(some 7), .op (.mov (.c (.i .i64 0))), none⟩])
  (.ret))))))))))))))⟩
-- slices.reverseRangeOrdered[string]
def i71 : IFn := ⟨[],
  .seq (.reg false [⟨(some 8), .op (.mov (.t 1)), none⟩,
    ⟨(some 6), .op (.mov (.t 8)), none⟩])
  (.seq (.reg false [⟨(some 9), .op (.mov (.t 2)), none⟩,
    ⟨(some 10), .op (.bin .sub (.t 9) (.c (.i .i64 1))), none⟩,
    ⟨(some 7), .op (.mov (.t 10)), none⟩])
  (.blk 0 (.loop (.seq (.seq (.reg false [⟨(some 11), .op (.mov (.t 6)), none⟩,
    ⟨(some 12), .op (.mov (.t 7)), none⟩,
    ⟨(some 13), .op (.bin .lss (.t 11) (.t 12)), none⟩])
  (.cond (.t 13) (.skip) (.exit 0)))
  (.blk 1 (.seq (.reg true [⟨(some 14), .op (.mov (.t 0)), none⟩,
    ⟨(some 15), .op (.mov (.t 6)), none⟩,
    ⟨(some 16), .op (.mov (.t 0)), none⟩,
    ⟨(some 17), .op (.mov (.t 7)), none⟩,
    ⟨(some 18), .op (.mov (.t 0)), none⟩,
    ⟨(some 19), .op (.mov (.t 7)), none⟩,
    ⟨(some 20), .op (.iAddrS 1 (.t 18) (.t 19)), none⟩,
    ⟨(some 21), .op (.load1 (.t 20)), none⟩,
    ⟨(some 22), .op (.mov (.t 0)), none⟩,
    ⟨(some 23), .op (.mov (.t 6)), none⟩,
    ⟨(some 24), .op (.iAddrS 1 (.t 22) (.t 23)), none⟩,
    ⟨(some 25), .op (.load1 (.t 24)), none⟩,
    ⟨(some 26), .op (.iAddrS 1 (.t 14) (.t 15)), none⟩,
    ⟨none, .op (.store 1 (.t 26) (.t 21)), none⟩,
    ⟨(some 27), .op (.iAddrS 1 (.t 16) (.t 17)), none⟩,
    ⟨none, .op (.store 1 (.t 27) (.t 25)), none⟩])
  (.seq (.reg false [⟨(some 28), .op (.mov (.t 6)), none⟩,
    ⟨(some 29), .op (.bin .add (.t 28) (.c (.i .i64 1))), none⟩,
    ⟨(some 6), .op (.mov (.t 29)), none⟩])
  (.reg false [⟨(some 30), .op (.mov (.t 7)), none⟩,
    ⟨(some 31), .op (.bin .sub (.t 30) (.c (.i .i64 1))), none⟩,
    ⟨(some 7), .op (.mov (.t 31)), none⟩]))))))))⟩
-- slices.partialInsertionSortOrdered[string]
def i72 : IFn := ⟨[.tmp 6],
  .seq (.reg false [⟨(some 6), .op (.mov (.c (.b false))), none⟩])
  (.seq (.reg false [⟨(some 11), .op (.mov (.t 1)), none⟩,
    ⟨(some 12), .op (.bin .add (.t 11) (.c (.i .i64 1))), none⟩,
    ⟨(some 7), .op (.mov (.t 12)), none⟩])
  (.seq (.seq (.reg false [⟨(some 8), .op (.mov (.c (.i .i64 0))), none⟩])
  (.blk 0 (.loop (.seq (.seq (.reg false [⟨(some 13), .op (.mov (.t 8)), none⟩,
    ⟨(some 14), .op (.bin .lss (.t 13) (.c (.i .i64 5))), none⟩])
  (.cond (.t 14) (.skip) (.exit 0)))
  (.seq (.blk 1 (.seq (.blk 2 (.loop (.seq (.seq (.reg true [⟨(some 17), .op (.mov (.t 7)), none⟩,
    ⟨(some 18), .op (.mov (.t 2)), none⟩,
    ⟨(some 19), .op (.bin .lss (.t 17) (.t 18)), none⟩,
    ⟨(some 20), .op (.mov (.t 19)), none⟩,
    ⟨(some 21), .op (.mov (.t 0)), (some (20, true))⟩,
    ⟨(some 22), .op (.mov (.t 7)), (some (20, true))⟩,
    ⟨(some 23), .op (.iAddrS 1 (.t 21) (.t 22)), (some (20, true))⟩,
    ⟨(some 24), .op (.load1 (.t 23)), (some (20, true))⟩,
    ⟨(some 25), .op (.mov (.t 0)), (some (20, true))⟩,
    ⟨(some 26), .op (.mov (.t 7)), (some (20, true))⟩,
    ⟨(some 27), .op (.bin .sub (.t 26) (.c (.i .i64 1))), (some (20, true))⟩,
    ⟨(some 28), .op (.iAddrS 1 (.t 25) (.t 27)), (some (20, true))⟩,
    ⟨(some 29), .op (.load1 (.t 28)), (some (20, true))⟩,
    ⟨(some 30), .callF 73 [(.t 24), (.t 29)], (some (20, true))⟩,
    ⟨(some 31), .op (.un .not (.t 30)), (some (20, true))⟩,
    ⟨(some 32), .op (.pick (.t 20) (.t 31) (.c (.b false))), none⟩])
  (.cond (.t 32) (.skip) (.exit 2)))
  (.blk 3 (.reg false [⟨(some 33), .op (.mov (.t 7)), none⟩,
    ⟨(some 34), .op (.bin .add (.t 33) (.c (.i .i64 1))), none⟩,
    ⟨(some 7), .op (.mov (.t 34)), none⟩])))))
  (.seq (.seq (.reg false [⟨(some 35), .op (.mov (.t 7)), none⟩,
    ⟨(some 36), .op (.mov (.t 2)), none⟩,
    ⟨(some 37), .op (.bin .eql (.t 35) (.t 36)), none⟩])
  (.cond (.t 37) (.seq (.reg false [⟨(some 6), .op (.mov (.c (.b true))), none⟩])
  (.ret)) (.skip)))
  (.seq (.seq (.reg false [⟨(some 38), .op (.mov (.t 2)), none⟩,
    ⟨(some 39), .op (.mov (.t 1)), none⟩,
    ⟨(some 40), .op (.bin .sub (.t 38) (.t 39)), none⟩,
    ⟨(some 41), .op (.bin .lss (.t 40) (.c (.i .i64 50))), none⟩])
  (.cond (.t 41) (.seq (.reg false [⟨(some 6), .op (.mov (.c (.b false))), none⟩])
  (.ret)) (.skip)))
  (.seq (.reg true [⟨(some 42), .op (.mov (.t 0)), none⟩,
    ⟨(some 43), .op (.mov (.t 7)), none⟩,
    ⟨(some 44), .op (.mov (.t 0)), none⟩,
    ⟨(some 45), .op (.mov (.t 7)), none⟩,
    ⟨(some 46), .op (.bin .sub (.t 45) (.c (.i .i64 1))), none⟩,
    ⟨(some 47), .op (.mov (.t 0)), none⟩,
    ⟨(some 48), .op (.mov (.t 7)), none⟩,
    ⟨(some 49), .op (.bin .sub (.t 48) (.c (.i .i64 1))), none⟩,
    ⟨(some 50), .op (.iAddrS 1 (.t 47) (.t 49)), none⟩,
    ⟨(some 51), .op (.load1 (.t 50)), none⟩,
    ⟨(some 52), .op (.mov (.t 0)), none⟩,
    ⟨(some 53), .op (.mov (.t 7)), none⟩,
    ⟨(some 54), .op (.iAddrS 1 (.t 52) (.t 53)), none⟩,
    ⟨(some 55), .op (.load1 (.t 54)), none⟩,
    ⟨(some 56), .op (.iAddrS 1 (.t 42) (.t 43)), none⟩,
    ⟨none, .op (.store 1 (.t 56) (.t 51)), none⟩,
    ⟨(some 57), .op (.iAddrS 1 (.t 44) (.t 46)), none⟩,
    ⟨none, .op (.store 1 (.t 57) (.t 55)), none⟩])
  (.seq (.seq (.reg false [⟨(some 58), .op (.mov (.t 7)), none⟩,
    ⟨(some 59), .op (.mov (.t 1)), none⟩,
    ⟨(some 60), .op (.bin .sub (.t 58) (.t 59)), none⟩,
    ⟨(some 61), .op (.bin .geq (.t 60) (.c (.i .i64 2))), none⟩])
  (.cond (.t 61) (.seq (.reg false [⟨(some 62), .op (.mov (.t 7)), none⟩,
    ⟨(some 63), .op (.bin .sub (.t 62) (.c (.i .i64 1))), none⟩,
    ⟨(some 9), .op (.mov (.t 63)), none⟩])
  (.blk 4 (.loop (.seq (.seq (.reg false [⟨(some 64), .op (.mov (.t 9)), none⟩,
    ⟨(some 65), .op (.bin .geq (.t 64) (.c (.i .i64 1))), none⟩])
  (.cond (.t 65) (.skip) (.exit 4)))
  (.seq (.blk 5 (.seq (.seq (.reg true [⟨(some 68), .op (.mov (.t 0)), none⟩,
    ⟨(some 69), .op (.mov (.t 9)), none⟩,
    ⟨(some 70), .op (.iAddrS 1 (.t 68) (.t 69)), none⟩,
    ⟨(some 71), .op (.load1 (.t 70)), none⟩,
    ⟨(some 72), .op (.mov (.t 0)), none⟩,
    ⟨(some 73), .op (.mov (.t 9)), none⟩,
    ⟨(some 74), .op (.bin .sub (.t 73) (.c (.i .i64 1))), none⟩,
    ⟨(some 75), .op (.iAddrS 1 (.t 72) (.t 74)), none⟩,
    ⟨(some 76), .op (.load1 (.t 75)), none⟩,
    ⟨(some 77), .callF 73 [(.t 71), (.t 76)], none⟩,
    ⟨(some 78), .op (.un .not (.t 77)), none⟩])
  (.cond (.t 78) (.exit 4) (.skip)))
  (.reg true [⟨(some 79), .op (.mov (.t 0)), none⟩,
    ⟨(some 80), .op (.mov (.t 9)), none⟩,
    ⟨(some 81), .op (.mov (.t 0)), none⟩,
    ⟨(some 82), .op (.mov (.t 9)), none⟩,
    ⟨(some 83), .op (.bin .sub (.t 82) (.c (.i .i64 1))), none⟩,
    ⟨(some 84), .op (.mov (.t 0)), none⟩,
    ⟨(some 85), .op (.mov (.t 9)), none⟩,
    ⟨(some 86), .op (.bin .sub (.t 85) (.c (.i .i64 1))), none⟩,
    ⟨(some 87), .op (.iAddrS 1 (.t 84) (.t 86)), none⟩,
    ⟨(some 88), .op (.load1 (.t 87)), none⟩,
    ⟨(some 89), .op (.mov (.t 0)), none⟩,
    ⟨(some 90), .op (.mov (.t 9)), none⟩,
    ⟨(some 91), .op (.iAddrS 1 (.t 89) (.t 90)), none⟩,
    ⟨(some 92), .op (.load1 (.t 91)), none⟩,
    ⟨(some 93), .op (.iAddrS 1 (.t 79) (.t 80)), none⟩,
    ⟨none, .op (.store 1 (.t 93) (.t 88)), none⟩,
    ⟨(some 94), .op (.iAddrS 1 (.t 81) (.t 83)), none⟩,
    ⟨none, .op (.store 1 (.t 94) (.t 92)), none⟩])))
  (.reg false [⟨(some 66), .op (.mov (.t 9)), none⟩,
    ⟨(some 67), .op (.bin .sub (.t 66) (.c (.i .i64 1))), none⟩,
    ⟨(some 9), .op (.mov (.t 67)), none⟩])))))) (.skip)))
  (.seq (.reg false [⟨(some 95), .op (.mov (.t 2)), none⟩,
    ⟨(some 96), .op (.mov (.t 7)), none⟩,
    ⟨(some 97), .op (.bin .sub (.t 95) (.t 96)), none⟩,
    ⟨(some 98), .op (.bin .geq (.t 97) (.c (.i .i64 2))), none⟩])
  (.cond (.t 98) (.seq (.reg false [⟨(some 99), .op (.mov (.t 7)), none⟩,
    ⟨(some 100), .op (.bin .add (.t 99) (.c (.i .i64 1))), none⟩,
    ⟨(some 10), .op (.mov (.t 100)), none⟩])
  (.blk 6 (.loop (.seq (.seq (.reg false [⟨(some 101), .op (.mov (.t 10)), none⟩,
    ⟨(some 102), .op (.mov (.t 2)), none⟩,
    ⟨(some 103), .op (.bin .lss (.t 101) (.t 102)), none⟩])
  (.cond (.t 103) (.skip) (.exit 6)))
  (.seq (.blk 7 (.seq (.seq (.reg true [⟨(some 106), .op (.mov (.t 0)), none⟩,
    ⟨(some 107), .op (.mov (.t 10)), none⟩,
    ⟨(some 108), .op (.iAddrS 1 (.t 106) (.t 107)), none⟩,
    ⟨(some 109), .op (.load1 (.t 108)), none⟩,
    ⟨(some 110), .op (.mov (.t 0)), none⟩,
    ⟨(some 111), .op (.mov (.t 10)), none⟩,
    ⟨(some 112), .op (.bin .sub (.t 111) (.c (.i .i64 1))), none⟩,
    ⟨(some 113), .op (.iAddrS 1 (.t 110) (.t 112)), none⟩,
    ⟨(some 114), .op (.load1 (.t 113)), none⟩,
    ⟨(some 115), .callF 73 [(.t 109), (.t 114)], none⟩,
    ⟨(some 116), .op (.un .not (.t 115)), none⟩])
  (.cond (.t 116) (.exit 6) (.skip)))
  (.reg true [⟨(some 117), .op (.mov (.t 0)), none⟩,
    ⟨(some 118), .op (.mov (.t 10)), none⟩,
    ⟨(some 119), .op (.mov (.t 0)), none⟩,
    ⟨(some 120), .op (.mov (.t 10)), none⟩,
    ⟨(some 121), .op (.bin .sub (.t 120) (.c (.i .i64 1))), none⟩,
    ⟨(some 122), .op (.mov (.t 0)), none⟩,
    ⟨(some 123), .op (.mov (.t 10)), none⟩,
    ⟨(some 124), .op (.bin .sub (.t 123) (.c (.i .i64 1))), none⟩,
    ⟨(some 125), .op (.iAddrS 1 (.t 122) (.t 124)), none⟩,
    ⟨(some 126), .op (.load1 (.t 125)), none⟩,
    ⟨(some 127), .op (.mov (.t 0)), none⟩,
    ⟨(some 128), .op (.mov (.t 10)), none⟩,
    ⟨(some 129), .op (.iAddrS 1 (.t 127) (.t 128)), none⟩,
    ⟨(some 130), .op (.load1 (.t 129)), none⟩,
    ⟨(some 131), .op (.iAddrS 1 (.t 117) (.t 118)), none⟩,
    ⟨none, .op (.store 1 (.t 131) (.t 126)), none⟩,
    ⟨(some 132), .op (.iAddrS 1 (.t 119) (.t 121)), none⟩,
    ⟨none, .op (.store 1 (.t 132) (.t 130)), none⟩])))
  (.reg false [⟨(some 104), .op (.mov (.t 10)), none⟩,
    ⟨(some 105), .op (.bin .add (.t 104) (.c (.i .i64 1))), none⟩,
    ⟨(some 10), .op (.mov (.t 105)), none⟩])))))) (.skip)))))))))
  (.reg false [⟨(some 15), .op (.mov (.t 8)), none⟩,
    ⟨(some 16), .op (.bin .add (.t 15) (.c (.i .i64 1))), none⟩,
    ⟨(some 8), .op (.mov (.t 16)), none⟩]))))))
  (.seq (.reg false [⟨(some 6), .op (.mov (.c (.b false))), none⟩])
  (.ret))))⟩
-- cmp.Less[string]
def i73 : IFn := ⟨[.tmp 4],
  .seq (.reg false [⟨(some 4), .op (.mov (.c (.b false))), none⟩])
  (.seq (.reg false [⟨(some 5), .op (.mov (.t 0)), none⟩,
    ⟨(some 6), .callF 84 [(.t 5)], none⟩,
    ⟨(some 7), .op (.mov (.t 6)), none⟩,
    ⟨(some 8), .op (.mov (.t 1)), (some (7, true))⟩,
    ⟨(some 9), .callF 84 [(.t 8)], (some (7, true))⟩,
    ⟨(some 10), .op (.un .not (.t 9)), (some (7, true))⟩,
    ⟨(some 11), .op (.pick (.t 7) (.t 10) (.c (.b false))), none⟩,
    ⟨(some 12), .op (.mov (.t 11)), none⟩,
    ⟨(some 13), .op (.mov (.t 0)), (some (12, false))⟩,
    ⟨(some 14), .op (.mov (.t 1)), (some (12, false))⟩,
    ⟨(some 15), .op (.bin .lss (.t 13) (.t 14)), (some (12, false))⟩,
    ⟨(some 16), .op (.pick (.t 12) (.c (.b true)) (.t 15)), none⟩,
    ⟨(some 4), .op (.mov (.t 16)), none⟩])
  (.ret))⟩
-- slices.partitionEqualOrdered[string]
def i74 : IFn := ⟨[.tmp 8],
  .seq (.reg false [⟨(some 8), .op (.mov (.c (.i .i64 0))), none⟩])
  (.seq (.reg true [⟨(some 11), .op (.mov (.t 0)), none⟩,
    ⟨(some 12), .op (.mov (.t 1)), none⟩,
    ⟨(some 13), .op (.mov (.t 0)), none⟩,
    ⟨(some 14), .op (.mov (.t 3)), none⟩,
    ⟨(some 15), .op (.mov (.t 0)), none⟩,
    ⟨(some 16), .op (.mov (.t 3)), none⟩,
    ⟨(some 17), .op (.iAddrS 1 (.t 15) (.t 16)), none⟩,
    ⟨(some 18), .op (.load1 (.t 17)), none⟩,
    ⟨(some 19), .op (.mov (.t 0)), none⟩,
    ⟨(some 20), .op (.mov (.t 1)), none⟩,
    ⟨(some 21), .op (.iAddrS 1 (.t 19) (.t 20)), none⟩,
    ⟨(some 22), .op (.load1 (.t 21)), none⟩,
    ⟨(some 23), .op (.iAddrS 1 (.t 11) (.t 12)), none⟩,
    ⟨none, .op (.store 1 (.t 23) (.t 18)), none⟩,
    ⟨(some 24), .op (.iAddrS 1 (.t 13) (.t 14)), none⟩,
    ⟨none, .op (.store 1 (.t 24) (.t 22)), none⟩])
  (.seq (.reg false [⟨(some 25), .op (.mov (.t 1)), none⟩,
    ⟨(some 26), .op (.bin .add (.t 25) (.c (.i .i64 1))), none⟩,
    ⟨(some 27), .op (.mov (.t 2)), none⟩,
    ⟨(some 28), .op (.bin .sub (.t 27) (.c (.i .i64 1))), none⟩,
    ⟨(some 9), .op (.mov (.t 26)), none⟩,
    ⟨(some 10), .op (.mov (.t 28)), none⟩])
  (.seq (.blk 0 (.loop (.blk 1 (.seq (.blk 2 (.loop (.seq (.seq (.reg true [⟨(some 29), .op (.mov (.t 9)), none⟩,
    ⟨(some 30), .op (.mov (.t 10)), none⟩,
    ⟨(some 31), .op (.bin .leq (.t 29) (.t 30)), none⟩,
    ⟨(some 32), .op (.mov (.t 31)), none⟩,
    ⟨(some 33), .op (.mov (.t 0)), (some (32, true))⟩,
    ⟨(some 34), .op (.mov (.t 1)), (some (32, true))⟩,
    ⟨(some 35), .op (.iAddrS 1 (.t 33) (.t 34)), (some (32, true))⟩,
    ⟨(some 36), .op (.load1 (.t 35)), (some (32, true))⟩,
    ⟨(some 37), .op (.mov (.t 0)), (some (32, true))⟩,
    ⟨(some 38), .op (.mov (.t 9)), (some (32, true))⟩,
    ⟨(some 39), .op (.iAddrS 1 (.t 37) (.t 38)), (some (32, true))⟩,
    ⟨(some 40), .op (.load1 (.t 39)), (some (32, true))⟩,
    ⟨(some 41), .callF 73 [(.t 36), (.t 40)], (some (32, true))⟩,
    ⟨(some 42), .op (.un .not (.t 41)), (some (32, true))⟩,
    ⟨(some 43), .op (.pick (.t 32) (.t 42) (.c (.b false))), none⟩])
  (.cond (.t 43) (.skip) (.exit 2)))
  (.blk 3 (.reg false [⟨(some 44), .op (.mov (.t 9)), none⟩,
    ⟨(some 45), .op (.bin .add (.t 44) (.c (.i .i64 1))), none⟩,
    ⟨(some 9), .op (.mov (.t 45)), none⟩])))))
  (.seq (.blk 4 (.loop (.seq (.seq (.reg true [⟨(some 46), .op (.mov (.t 9)), none⟩,
    ⟨(some 47), .op (.mov (.t 10)), none⟩,
    ⟨(some 48), .op (.bin .leq (.t 46) (.t 47)), none⟩,
    ⟨(some 49), .op (.mov (.t 48)), none⟩,
    ⟨(some 50), .op (.mov (.t 0)), (some (49, true))⟩,
    ⟨(some 51), .op (.mov (.t 1)), (some (49, true))⟩,
    ⟨(some 52), .op (.iAddrS 1 (.t 50) (.t 51)), (some (49, true))⟩,
    ⟨(some 53), .op (.load1 (.t 52)), (some (49, true))⟩,
    ⟨(some 54), .op (.mov (.t 0)), (some (49, true))⟩,
    ⟨(some 55), .op (.mov (.t 10)), (some (49, true))⟩,
    ⟨(some 56), .op (.iAddrS 1 (.t 54) (.t 55)), (some (49, true))⟩,
    ⟨(some 57), .op (.load1 (.t 56)), (some (49, true))⟩,
    ⟨(some 58), .callF 73 [(.t 53), (.t 57)], (some (49, true))⟩,
    ⟨(some 59), .op (.pick (.t 49) (.t 58) (.c (.b false))), none⟩])
  (.cond (.t 59) (.skip) (.exit 4)))
  (.blk 5 (.reg false [⟨(some 60), .op (.mov (.t 10)), none⟩,
    ⟨(some 61), .op (.bin .sub (.t 60) (.c (.i .i64 1))), none⟩,
    ⟨(some 10), .op (.mov (.t 61)), none⟩])))))
  (.seq (.seq (.reg false [⟨(some 62), .op (.mov (.t 9)), none⟩,
    ⟨(some 63), .op (.mov (.t 10)), none⟩,
    ⟨(some 64), .op (.bin .gtr (.t 62) (.t 63)), none⟩])
  (.cond (.t 64) (.exit 0) (.skip)))
  (.seq (.reg true [⟨(some 65), .op (.mov (.t 0)), none⟩,
    ⟨(some 66), .op (.mov (.t 9)), none⟩,
    ⟨(some 67), .op (.mov (.t 0)), none⟩,
    ⟨(some 68), .op (.mov (.t 10)), none⟩,
    ⟨(some 69), .op (.mov (.t 0)), none⟩,
    ⟨(some 70), .op (.mov (.t 10)), none⟩,
    ⟨(some 71), .op (.iAddrS 1 (.t 69) (.t 70)), none⟩,
    ⟨(some 72), .op (.load1 (.t 71)), none⟩,
    ⟨(some 73), .op (.mov (.t 0)), none⟩,
    ⟨(some 74), .op (.mov (.t 9)), none⟩,
    ⟨(some 75), .op (.iAddrS 1 (.t 73) (.t 74)), none⟩,
    ⟨(some 76), .op (.load1 (.t 75)), none⟩,
    ⟨(some 77), .op (.iAddrS 1 (.t 65) (.t 66)), none⟩,
    ⟨none, .op (.store 1 (.t 77) (.t 72)), none⟩,
    ⟨(some 78), .op (.iAddrS 1 (.t 67) (.t 68)), none⟩,
    ⟨none, .op (.store 1 (.t 78) (.t 76)), none⟩])
  (.seq (.reg false [⟨(some 79), .op (.mov (.t 9)), none⟩,
    ⟨(some 80), .op (.bin .add (.t 79) (.c (.i .i64 1))), none⟩,
    ⟨(some 9), .op (.mov (.t 80)), none⟩])
  (.reg false [⟨(some 81), .op (.mov (.t 10)), none⟩,
    ⟨(some 82), .op (.bin .sub (.t 81) (.c (.i .i64 1))), none⟩,
    ⟨(some 10), .op (.mov (.t 82)), none⟩])))))))))
  (.seq (.reg false [⟨(some 83), .op (.mov (.t 9)), none⟩,
    ⟨(some 8), .op (.mov (.t 83)), none⟩])
  (.ret)))))⟩
-- slices.partitionOrdered[string]
def i75 : IFn := ⟨[.tmp 8, .tmp 9],
  .seq (.reg false [⟨(some 8), .op (.mov (.c (.i .i64 0))), none⟩,
    ⟨(some 9), .op (.mov (.c (.b false))), none⟩])
  (.seq (.reg true [⟨(some 12), .op (.mov (.t 0)), none⟩,
    ⟨(some 13), .op (.mov (.t 1)), none⟩,
    ⟨(some 14), .op (.mov (.t 0)), none⟩,
    ⟨(some 15), .op (.mov (.t 3)), none⟩,
    ⟨(some 16), .op (.mov (.t 0)), none⟩,
    ⟨(some 17), .op (.mov (.t 3)), none⟩,
    ⟨(some 18), .op (.iAddrS 1 (.t 16) (.t 17)), none⟩,
    ⟨(some 19), .op (.load1 (.t 18)), none⟩,
    ⟨(some 20), .op (.mov (.t 0)), none⟩,
    ⟨(some 21), .op (.mov (.t 1)), none⟩,
    ⟨(some 22), .op (.iAddrS 1 (.t 20) (.t 21)), none⟩,
    ⟨(some 23), .op (.load1 (.t 22)), none⟩,
    ⟨(some 24), .op (.iAddrS 1 (.t 12) (.t 13)), none⟩,
    ⟨none, .op (.store 1 (.t 24) (.t 19)), none⟩,
    ⟨(some 25), .op (.iAddrS 1 (.t 14) (.t 15)), none⟩,
    ⟨none, .op (.store 1 (.t 25) (.t 23)), none⟩])
  (.seq (.reg false [⟨(some 26), .op (.mov (.t 1)), none⟩,
    ⟨(some 27), .op (.bin .add (.t 26) (.c (.i .i64 1))), none⟩,
    ⟨(some 28), .op (.mov (.t 2)), none⟩,
    ⟨(some 29), .op (.bin .sub (.t 28) (.c (.i .i64 1))), none⟩,
    ⟨(some 10), .op (.mov (.t 27)), none⟩,
    ⟨(some 11), .op (.mov (.t 29)), none⟩])
  (.seq (.blk 0 (.loop (.seq (.seq (.reg true [⟨(some 30), .op (.mov (.t 10)), none⟩,
    ⟨(some 31), .op (.mov (.t 11)), none⟩,
    ⟨(some 32), .op (.bin .leq (.t 30) (.t 31)), none⟩,
    ⟨(some 33), .op (.mov (.t 32)), none⟩,
    ⟨(some 34), .op (.mov (.t 0)), (some (33, true))⟩,
    ⟨(some 35), .op (.mov (.t 10)), (some (33, true))⟩,
    ⟨(some 36), .op (.iAddrS 1 (.t 34) (.t 35)), (some (33, true))⟩,
    ⟨(some 37), .op (.load1 (.t 36)), (some (33, true))⟩,
    ⟨(some 38), .op (.mov (.t 0)), (some (33, true))⟩,
    ⟨(some 39), .op (.mov (.t 1)), (some (33, true))⟩,
    ⟨(some 40), .op (.iAddrS 1 (.t 38) (.t 39)), (some (33, true))⟩,
    ⟨(some 41), .op (.load1 (.t 40)), (some (33, true))⟩,
    ⟨(some 42), .callF 73 [(.t 37), (.t 41)], (some (33, true))⟩,
    ⟨(some 43), .op (.pick (.t 33) (.t 42) (.c (.b false))), none⟩])
  (.cond (.t 43) (.skip) (.exit 0)))
  (.blk 1 (.reg false [⟨(some 44), .op (.mov (.t 10)), none⟩,
    ⟨(some 45), .op (.bin .add (.t 44) (.c (.i .i64 1))), none⟩,
    ⟨(some 10), .op (.mov (.t 45)), none⟩])))))
  (.seq (.blk 2 (.loop (.seq (.seq (.reg true [⟨(some 46), .op (.mov (.t 10)), none⟩,
    ⟨(some 47), .op (.mov (.t 11)), none⟩,
    ⟨(some 48), .op (.bin .leq (.t 46) (.t 47)), none⟩,
    ⟨(some 49), .op (.mov (.t 48)), none⟩,
    ⟨(some 50), .op (.mov (.t 0)), (some (49, true))⟩,
    ⟨(some 51), .op (.mov (.t 11)), (some (49, true))⟩,
    ⟨(some 52), .op (.iAddrS 1 (.t 50) (.t 51)), (some (49, true))⟩,
    ⟨(some 53), .op (.load1 (.t 52)), (some (49, true))⟩,
    ⟨(some 54), .op (.mov (.t 0)), (some (49, true))⟩,
    ⟨(some 55), .op (.mov (.t 1)), (some (49, true))⟩,
    ⟨(some 56), .op (.iAddrS 1 (.t 54) (.t 55)), (some (49, true))⟩,
    ⟨(some 57), .op (.load1 (.t 56)), (some (49, true))⟩,
    ⟨(some 58), .callF 73 [(.t 53), (.t 57)], (some (49, true))⟩,
    ⟨(some 59), .op (.un .not (.t 58)), (some (49, true))⟩,
    ⟨(some 60), .op (.pick (.t 49) (.t 59) (.c (.b false))), none⟩])
  (.cond (.t 60) (.skip) (.exit 2)))
  (.blk 3 (.reg false [⟨(some 61), .op (.mov (.t 11)), none⟩,
    ⟨(some 62), .op (.bin .sub (.t 61) (.c (.i .i64 1))), none⟩,
    ⟨(some 11), .op (.mov (.t 62)), none⟩])))))
  (.seq (.seq (.reg false [⟨(some 63), .op (.mov (.t 10)), none⟩,
    ⟨(some 64), .op (.mov (.t 11)), none⟩,
    ⟨(some 65), .op (.bin .gtr (.t 63) (.t 64)), none⟩])
  (.cond (.t 65) (.seq (.reg true [⟨(some 66), .op (.mov (.t 0)), none⟩,
    ⟨(some 67), .op (.mov (.t 11)), none⟩,
    ⟨(some 68), .op (.mov (.t 0)), none⟩,
    ⟨(some 69), .op (.mov (.t 1)), none⟩,
    ⟨(some 70), .op (.mov (.t 0)), none⟩,
    ⟨(some 71), .op (.mov (.t 1)), none⟩,
    ⟨(some 72), .op (.iAddrS 1 (.t 70) (.t 71)), none⟩,
    ⟨(some 73), .op (.load1 (.t 72)), none⟩,
    ⟨(some 74), .op (.mov (.t 0)), none⟩,
    ⟨(some 75), .op (.mov (.t 11)), none⟩,
    ⟨(some 76), .op (.iAddrS 1 (.t 74) (.t 75)), none⟩,
    ⟨(some 77), .op (.load1 (.t 76)), none⟩,
    ⟨(some 78), .op (.iAddrS 1 (.t 66) (.t 67)), none⟩,
    ⟨none, .op (.store 1 (.t 78) (.t 73)), none⟩,
    ⟨(some 79), .op (.iAddrS 1 (.t 68) (.t 69)), none⟩,
    ⟨none, .op (.store 1 (.t 79) (.t 77)), none⟩])
  (.seq (.reg false [⟨(some 80), .op (.mov (.t 11)), none⟩,
    ⟨(some 8), .op (.mov (.t 80)), none⟩,
    ⟨(some 9), .op (.mov (.c (.b true))), none⟩])
  (.ret))) (.skip)))
  (.seq (.reg true [⟨(some 81), .op (.mov (.t 0)), none⟩,
    ⟨(some 82), .op (.mov (.t 10)), none⟩,
    ⟨(some 83), .op (.mov (.t 0)), none⟩,
    ⟨(some 84), .op (.mov (.t 11)), none⟩,
    ⟨(some 85), .op (.mov (.t 0)), none⟩,
    ⟨(some 86), .op (.mov (.t 11)), none⟩,
    ⟨(some 87), .op (.iAddrS 1 (.t 85) (.t 86)), none⟩,
    ⟨(some 88), .op (.load1 (.t 87)), none⟩,
    ⟨(some 89), .op (.mov (.t 0)), none⟩,
    ⟨(some 90), .op (.mov (.t 10)), none⟩,
    ⟨(some 91), .op (.iAddrS 1 (.t 89) (.t 90)), none⟩,
    ⟨(some 92), .op (.load1 (.t 91)), none⟩,
    ⟨(some 93), .op (.iAddrS 1 (.t 81) (.t 82)), none⟩,
    ⟨none, .op (.store 1 (.t 93) (.t 88)), none⟩,
    ⟨(some 94), .op (.iAddrS 1 (.t 83) (.t 84)), none⟩,
    ⟨none, .op (.store 1 (.t 94) (.t 92)), none⟩])
  (.seq (.reg false [⟨(some 95), .op (.mov (.t 10)), none⟩,
    ⟨(some 96), .op (.bin .add (.t 95) (.c (.i .i64 1))), none⟩,
    ⟨(some 10), .op (.mov (.t 96)), none⟩])
  (.seq (.reg false [⟨(some 97), .op (.mov (.t 11)), none⟩,
    ⟨(some 98), .op (.bin .sub (.t 97) (.c (.i .i64 1))), none⟩,
    ⟨(some 11), .op (.mov (.t 98)), none⟩])
  (.seq (.blk 4 (.loop (.blk 5 (.seq (.blk 6 (.loop (.seq (.seq (.reg true [⟨(some 99), .op (.mov (.t 10)), none⟩,
    ⟨(some 100), .op (.mov (.t 11)), none⟩,
    ⟨(some 101), .op (.bin .leq (.t 99) (.t 100)), none⟩,
    ⟨(some 102), .op (.mov (.t 101)), none⟩,
    ⟨(some 103), .op (.mov (.t 0)), (some (102, true))⟩,
    ⟨(some 104), .op (.mov (.t 10)), (some (102, true))⟩,
    ⟨(some 105), .op (.iAddrS 1 (.t 103) (.t 104)), (some (102, true))⟩,
    ⟨(some 106), .op (.load1 (.t 105)), (some (102, true))⟩,
    ⟨(some 107), .op (.mov (.t 0)), (some (102, true))⟩,
    ⟨(some 108), .op (.mov (.t 1)), (some (102, true))⟩,
    ⟨(some 109), .op (.iAddrS 1 (.t 107) (.t 108)), (some (102, true))⟩,
    ⟨(some 110), .op (.load1 (.t 109)), (some (102, true))⟩,
    ⟨(some 111), .callF 73 [(.t 106), (.t 110)], (some (102, true))⟩,
    ⟨(some 112), .op (.pick (.t 102) (.t 111) (.c (.b false))), none⟩])
  (.cond (.t 112) (.skip) (.exit 6)))
  (.blk 7 (.reg false [⟨(some 113), .op (.mov (.t 10)), none⟩,
    ⟨(some 114), .op (.bin .add (.t 113) (.c (.i .i64 1))), none⟩,
    ⟨(some 10), .op (.mov (.t 114)), none⟩])))))
  (.seq (.blk 8 (.loop (.seq (.seq (.reg true [⟨(some 115), .op (.mov (.t 10)), none⟩,
    ⟨(some 116), .op (.mov (.t 11)), none⟩,
    ⟨(some 117), .op (.bin .leq (.t 115) (.t 116)), none⟩,
    ⟨(some 118), .op (.mov (.t 117)), none⟩,
    ⟨(some 119), .op (.mov (.t 0)), (some (118, true))⟩,
    ⟨(some 120), .op (.mov (.t 11)), (some (118, true))⟩,
    ⟨(some 121), .op (.iAddrS 1 (.t 119) (.t 120)), (some (118, true))⟩,
    ⟨(some 122), .op (.load1 (.t 121)), (some (118, true))⟩,
    ⟨(some 123), .op (.mov (.t 0)), (some (118, true))⟩,
    ⟨(some 124), .op (.mov (.t 1)), (some (118, true))⟩,
    ⟨(some 125), .op (.iAddrS 1 (.t 123) (.t 124)), (some (118, true))⟩,
    ⟨(some 126), .op (.load1 (.t 125)), (some (118, true))⟩,
    ⟨(some 127), .callF 73 [(.t 122), (.t 126)], (some (118, true))⟩,
    ⟨(some 128), .op (.un .not (.t 127)), (some (118, true))⟩,
    ⟨(some 129), .op (.pick (.t 118) (.t 128) (.c (.b false))), none⟩])
  (.cond (.t 129) (.skip) (.exit 8)))
  (.blk 9 (.reg false [⟨(some 130), .op (.mov (.t 11)), none⟩,
    ⟨(some 131), .op (.bin .sub (.t 130) (.c (.i .i64 1))), none⟩,
    ⟨(some 11), .op (.mov (.t 131)), none⟩])))))
  (.seq (.seq (.reg false [⟨(some 132), .op (.mov (.t 10)), none⟩,
    ⟨(some 133), .op (.mov (.t 11)), none⟩,
    ⟨(some 134), .op (.bin .gtr (.t 132) (.t 133)), none⟩])
  (.cond (.t 134) (.exit 4) (.skip)))
  (.seq (.reg true [⟨(some 135), .op (.mov (.t 0)), none⟩,
    ⟨(some 136), .op (.mov (.t 10)), none⟩,
    ⟨(some 137), .op (.mov (.t 0)), none⟩,
    ⟨(some 138), .op (.mov (.t 11)), none⟩,
    ⟨(some 139), .op (.mov (.t 0)), none⟩,
    ⟨(some 140), .op (.mov (.t 11)), none⟩,
    ⟨(some 141), .op (.iAddrS 1 (.t 139) (.t 140)), none⟩,
    ⟨(some 142), .op (.load1 (.t 141)), none⟩,
    ⟨(some 143), .op (.mov (.t 0)), none⟩,
    ⟨(some 144), .op (.mov (.t 10)), none⟩,
    ⟨(some 145), .op (.iAddrS 1 (.t 143) (.t 144)), none⟩,
    ⟨(some 146), .op (.load1 (.t 145)), none⟩,
    ⟨(some 147), .op (.iAddrS 1 (.t 135) (.t 136)), none⟩,
    ⟨none, .op (.store 1 (.t 147) (.t 142)), none⟩,
    ⟨(some 148), .op (.iAddrS 1 (.t 137) (.t 138)), none⟩,
    ⟨none, .op (.store 1 (.t 148) (.t 146)), none⟩])
  (.seq (.reg false [⟨(some 149), .op (.mov (.t 10)), none⟩,
    ⟨(some 150), .op (.bin .add (.t 149) (.c (.i .i64 1))), none⟩,
    ⟨(some 10), .op (.mov (.t 150)), none⟩])
  (.reg false [⟨(some 151), .op (.mov (.t 11)), none⟩,
    ⟨(some 152), .op (.bin .sub (.t 151) (.c (.i .i64 1))), none⟩,
    ⟨(some 11), .op (.mov (.t 152)), none⟩])))))))))
  (.seq (.reg true [⟨(some 153), .op (.mov (.t 0)), none⟩,
    ⟨(some 154), .op (.mov (.t 11)), none⟩,
    ⟨(some 155), .op (.mov (.t 0)), none⟩,
    ⟨(some 156), .op (.mov (.t 1)), none⟩,
    ⟨(some 157), .op (.mov (.t 0)), none⟩,
    ⟨(some 158), .op (.mov (.t 1)), none⟩,
    ⟨(some 159), .op (.iAddrS 1 (.t 157) (.t 158)), none⟩,
    ⟨(some 160), .op (.load1 (.t 159)), none⟩,
    ⟨(some 161), .op (.mov (.t 0)), none⟩,
    ⟨(some 162), .op (.mov (.t 11)), none⟩,
    ⟨(some 163), .op (.iAddrS 1 (.t 161) (.t 162)), none⟩,
    ⟨(some 164), .op (.load1 (.t 163)), none⟩,
    ⟨(some 165), .op (.iAddrS 1 (.t 153) (.t 154)), none⟩,
    ⟨none, .op (.store 1 (.t 165) (.t 160)), none⟩,
    ⟨(some 166), .op (.iAddrS 1 (.t 155) (.t 156)), none⟩,
    ⟨none, .op (.store 1 (.t 166) (.t 164)), none⟩])
  (.seq (.reg false [⟨(some 167), .op (.mov (.t 11)), none⟩,
    ⟨(some 8), .op (.mov (.t 167)), none⟩,
    ⟨(some 9), .op (.mov (.c (.b false))), none⟩])
  (.ret))))))))))))⟩
-- slices.siftDownCmpFunc[vestibule/api.Call]
def i76 : IFn := ⟨[],
  .seq (.reg false [⟨(some 12), .op (.mov (.t 1)), none⟩,
    ⟨(some 10), .op (.mov (.t 12)), none⟩])
  (.blk 0 (.loop (.blk 1 (.seq (.reg false [⟨(some 13), .op (.mov (.t 10)), none⟩,
    ⟨(some 14), .op (.bin .mul (.c (.i .i64 2)) (.t 13)), none⟩,
    ⟨(some 15), .op (.bin .add (.t 14) (.c (.i .i64 1))), none⟩,
    ⟨(some 11), .op (.mov (.t 15)), none⟩])
  (.seq (.seq (.reg false [⟨(some 16), .op (.mov (.t 11)), none⟩,
    ⟨(some 17), .op (.mov (.t 2)), none⟩,
    ⟨(some 18), .op (.bin .geq (.t 16) (.t 17)), none⟩])
  (.cond (.t 18) (.exit 0) (.skip)))
  (.seq (.seq (.reg true [⟨(some 19), .op (.mov (.t 11)), none⟩,
    ⟨(some 20), .op (.bin .add (.t 19) (.c (.i .i64 1))), none⟩,
    ⟨(some 21), .op (.mov (.t 2)), none⟩,
    ⟨(some 22), .op (.bin .lss (.t 20) (.t 21)), none⟩,
    ⟨(some 23), .op (.mov (.t 22)), none⟩,
    ⟨(some 24), .op (.mov (.t 4)), (some (23, true))⟩,
    ⟨(some 25), .op (.mov (.t 0)), (some (23, true))⟩,
    ⟨(some 26), .op (.mov (.t 3)), (some (23, true))⟩,
    ⟨(some 27), .op (.mov (.t 11)), (some (23, true))⟩,
    ⟨(some 28), .op (.bin .add (.t 26) (.t 27)), (some (23, true))⟩,
    ⟨(some 29), .op (.iAddrS 2 (.t 25) (.t 28)), (some (23, true))⟩,
    ⟨(some 30), .op (.loadN 2 (.t 29)), (some (23, true))⟩,
    ⟨(some 31), .op (.mov (.t 0)), (some (23, true))⟩,
    ⟨(some 32), .op (.mov (.t 3)), (some (23, true))⟩,
    ⟨(some 33), .op (.mov (.t 11)), (some (23, true))⟩,
    ⟨(some 34), .op (.bin .add (.t 32) (.t 33)), (some (23, true))⟩,
    ⟨(some 35), .op (.bin .add (.t 34) (.c (.i .i64 1))), (some (23, true))⟩,
    ⟨(some 36), .op (.iAddrS 2 (.t 31) (.t 35)), (some (23, true))⟩,
    ⟨(some 37), .op (.loadN 2 (.t 36)), (some (23, true))⟩,
    ⟨(some 38), .callV (.t 24) [(.t 30), (.t 37)], (some (23, true))⟩,
    ⟨(some 39), .op (.bin .lss (.t 38) (.c (.i .i64 0))), (some (23, true))⟩,
    ⟨(some 40), .op (.pick (.t 23) (.t 39) (.c (.b false))), none⟩])
  (.cond (.t 40) (.reg false [⟨(some 41), .op (.mov (.t 11)), none⟩,
    ⟨(some 42), .op (.bin .add (.t 41) (.c (.i .i64 1))), none⟩,
    ⟨(some 11), .op (.mov (.t 42)), none⟩]) (.skip)))
  (.seq (.seq (.reg true [⟨(some 43), .op (.mov (.t 4)), none⟩,
    ⟨(some 44), .op (.mov (.t 0)), none⟩,
    ⟨(some 45), .op (.mov (.t 3)), none⟩,
    ⟨(some 46), .op (.mov (.t 10)), none⟩,
    ⟨(some 47), .op (.bin .add (.t 45) (.t 46)), none⟩,
    ⟨(some 48), .op (.iAddrS 2 (.t 44) (.t 47)), none⟩,
    ⟨(some 49), .op (.loadN 2 (.t 48)), none⟩,
    ⟨(some 50), .op (.mov (.t 0)), none⟩,
    ⟨(some 51), .op (.mov (.t 3)), none⟩,
    ⟨(some 52), .op (.mov (.t 11)), none⟩,
    ⟨(some 53), .op (.bin .add (.t 51) (.t 52)), none⟩,
    ⟨(some 54), .op (.iAddrS 2 (.t 50) (.t 53)), none⟩,
    ⟨(some 55), .op (.loadN 2 (.t 54)), none⟩,
    ⟨(some 56), .callV (.t 43) [(.t 49), (.t 55)], none⟩,
    ⟨(some 57), .op (.bin .lss (.t 56) (.c (.i .i64 0))), none⟩,
    ⟨(some 58), .op (.un .not (.t 57)), none⟩])
  (.cond (.t 58) (.ret) (.skip)))
  (.seq (.reg true [⟨(some 59), .op (.mov (.t 0)), none⟩,
    ⟨(some 60), .op (.mov (.t 3)), none⟩,
    ⟨(some 61), .op (.mov (.t 10)), none⟩,
    ⟨(some 62), .op (.bin .add (.t 60) (.t 61)), none⟩,
    ⟨(some 63), .op (.mov (.t 0)), none⟩,
    ⟨(some 64), .op (.mov (.t 3)), none⟩,
    ⟨(some 65), .op (.mov (.t 11)), none⟩,
    ⟨(some 66), .op (.bin .add (.t 64) (.t 65)), none⟩,
    ⟨(some 67), .op (.mov (.t 0)), none⟩,
    ⟨(some 68), .op (.mov (.t 3)), none⟩,
    ⟨(some 69), .op (.mov (.t 11)), none⟩,
    ⟨(some 70), .op (.bin .add (.t 68) (.t 69)), none⟩,
    ⟨(some 71), .op (.iAddrS 2 (.t 67) (.t 70)), none⟩,
    ⟨(some 72), .op (.loadN 2 (.t 71)), none⟩,
    ⟨(some 73), .op (.mov (.t 0)), none⟩,
    ⟨(some 74), .op (.mov (.t 3)), none⟩,
    ⟨(some 75), .op (.mov (.t 10)), none⟩,
    ⟨(some 76), .op (.bin .add (.t 74) (.t 75)), none⟩,
    ⟨(some 77), .op (.iAddrS 2 (.t 73) (.t 76)), none⟩,
    ⟨(some 78), .op (.loadN 2 (.t 77)), none⟩,
    ⟨(some 79), .op (.iAddrS 2 (.t 59) (.t 62)), none⟩,
    ⟨none, .op (.store 2 (.t 79) (.t 72)), none⟩,
    ⟨(some 80), .op (.iAddrS 2 (.t 63) (.t 66)), none⟩,
    ⟨none, .op (.store 2 (.t 80) (.t 78)), none⟩])
  (.reg false [⟨(some 81), .op (.mov (.t 11)), none⟩,
    ⟨(some 10), .op (.mov (.t 81)), none⟩])))))))))⟩
-- slices.nextPowerOfTwo
def i77 : IFn := ⟨[.tmp 2],
  .seq (.reg false [⟨(some 2), .op (.mov (.c (.i .u64 0))), none⟩])
  (.seq (.reg false [⟨(some 3), .op (.mov (.t 0)), none⟩,
    ⟨(some 4), .op (.cvInt .u64 (.t 3)), none⟩,
    ⟨(some 5), .callF 52 [(.t 4)], none⟩,
    ⟨(some 6), .op (.bin .shl (.c (.i .u64 1)) (.t 5)), none⟩,
    ⟨(some 2), .op (.mov (.t 6)), none⟩])
  (.ret))⟩
-- (*slices.xorshift).Next
def i78 : IFn := ⟨[.tmp 2],
  .seq (.reg false [⟨(some 2), .op (.mov (.c (.i .u64 0))), none⟩])
  (.seq (.reg true [⟨(some 3), .op (.mov (.t 0)), none⟩,
    ⟨(some 4), .op (.nilChk (.t 3)), none⟩,
    ⟨(some 5), .op (.load1 (.t 4)), none⟩,
    ⟨(some 6), .op (.mov (.t 0)), none⟩,
    ⟨(some 7), .op (.nilChk (.t 6)), none⟩,
    ⟨(some 8), .op (.load1 (.t 7)), none⟩,
    ⟨(some 9), .op (.bin .shl (.t 8) (.c (.i .u64 13))), none⟩,
    ⟨(some 10), .op (.bin .xor (.t 5) (.t 9)), none⟩,
    ⟨(some 11), .op (.nilChk (.t 3)), none⟩,
    ⟨none, .op (.store 1 (.t 11) (.t 10)), none⟩])
  (.seq (.reg true [⟨(some 12), .op (.mov (.t 0)), none⟩,
    ⟨(some 13), .op (.nilChk (.t 12)), none⟩,
    ⟨(some 14), .op (.load1 (.t 13)), none⟩,
    ⟨(some 15), .op (.mov (.t 0)), none⟩,
    ⟨(some 16), .op (.nilChk (.t 15)), none⟩,
    ⟨(some 17), .op (.load1 (.t 16)), none⟩,
    ⟨(some 18), .op (.bin .shr (.t 17) (.c (.i .u64 7))), none⟩,
    ⟨(some 19), .op (.bin .xor (.t 14) (.t 18)), none⟩,
    ⟨(some 20), .op (.nilChk (.t 12)), none⟩,
    ⟨none, .op (.store 1 (.t 20) (.t 19)), none⟩])
  (.seq (.reg true [⟨(some 21), .op (.mov (.t 0)), none⟩,
    ⟨(some 22), .op (.nilChk (.t 21)), none⟩,
    ⟨(some 23), .op (.load1 (.t 22)), none⟩,
    ⟨(some 24), .op (.mov (.t 0)), none⟩,
    ⟨(some 25), .op (.nilChk (.t 24)), none⟩,
    ⟨(some 26), .op (.load1 (.t 25)), none⟩,
    ⟨(some 27), .op (.bin .shl (.t 26) (.c (.i .u64 17))), none⟩,
    ⟨(some 28), .op (.bin .xor (.t 23) (.t 27)), none⟩,
    ⟨(some 29), .op (.nilChk (.t 21)), none⟩,
    ⟨none, .op (.store 1 (.t 29) (.t 28)), none⟩])
  (.seq (.reg false [⟨(some 30), .op (.mov (.t 0)), none⟩,
    ⟨(some 31), .op (.nilChk (.t 30)), none⟩,
    ⟨(some 32), .op (.load1 (.t 31)), none⟩,
    ⟨(some 2), .op (.mov (.t 32)), none⟩])
  (.ret)))))⟩
-- slices.medianAdjacentCmpFunc[vestibule/api.Call]
def i79 : IFn := ⟨[.tmp 8],
  .seq (.reg false [⟨(some 8), .op (.mov (.c (.i .i64 0))), none⟩])
  (.seq (.reg false [⟨(some 9), .op (.mov (.t 0)), none⟩,
    ⟨(some 10), .op (.mov (.t 1)), none⟩,
    ⟨(some 11), .op (.bin .sub (.t 10) (.c (.i .i64 1))), none⟩,
    ⟨(some 12), .op (.mov (.t 1)), none⟩,
    ⟨(some 13), .op (.mov (.t 1)), none⟩,
    ⟨(some 14), .op (.bin .add (.t 13) (.c (.i .i64 1))), none⟩,
    ⟨(some 15), .op (.mov (.t 2)), none⟩,
    ⟨(some 16), .op (.mov (.t 3)), none⟩,
    ⟨(some 17), .callF 80 [(.t 9), (.t 11), (.t 12), (.t 14), (.t 15), (.t 16)], none⟩,
    ⟨(some 8), .op (.mov (.t 17)), none⟩])
  (.ret))⟩
-- slices.medianCmpFunc[vestibule/api.Call]
def i80 : IFn := ⟨[.tmp 12],
  .seq (.reg false [⟨(some 12), .op (.mov (.c (.i .i64 0))), none⟩])
  (.seq (.reg false [⟨(some 14), .op (.mov (.t 0)), none⟩,
    ⟨(some 15), .op (.mov (.t 1)), none⟩,
    ⟨(some 16), .op (.mov (.t 2)), none⟩,
    ⟨(some 17), .op (.mov (.t 4)), none⟩,
    ⟨(some 18), .op (.mov (.t 5)), none⟩,
    ⟨(some 19), .callF 85 [(.t 14), (.t 15), (.t 16), (.t 17), (.t 18)], none⟩,
    ⟨(some 13), .op (.mov (.t 19)), none⟩,
    ⟨(some 20), .op (.ext (.t 13) 0), none⟩,
    ⟨(some 21), .op (.ext (.t 13) 1), none⟩,
    ⟨(some 1), .op (.mov (.t 20)), none⟩,
    ⟨(some 2), .op (.mov (.t 21)), none⟩])
  (.seq (.reg false [⟨(some 23), .op (.mov (.t 0)), none⟩,
    ⟨(some 24), .op (.mov (.t 2)), none⟩,
    ⟨(some 25), .op (.mov (.t 3)), none⟩,
    ⟨(some 26), .op (.mov (.t 4)), none⟩,
    ⟨(some 27), .op (.mov (.t 5)), none⟩,
    ⟨(some 28), .callF 85 [(.t 23), (.t 24), (.t 25), (.t 26), (.t 27)], none⟩,
    ⟨(some 22), .op (.mov (.t 28)), none⟩,
    ⟨(some 29), .op (.ext (.t 22) 0), none⟩,
    ⟨(some 30), .op (.ext (.t 22) 1), none⟩,
    ⟨(some 2), .op (.mov (.t 29)), none⟩,
    ⟨(some 3), .op (.mov (.t 30)), none⟩])
  (.seq (.reg false [⟨(some 32), .op (.mov (.t 0)), none⟩,
    ⟨(some 33), .op (.mov (.t 1)), none⟩,
    ⟨(some 34), .op (.mov (.t 2)), none⟩,
    ⟨(some 35), .op (.mov (.t 4)), none⟩,
    ⟨(some 36), .op (.mov (.t 5)), none⟩,
    ⟨(some 37), .callF 85 [(.t 32), (.t 33), (.t 34), (.t 35), (.t 36)], none⟩,
    ⟨(some 31), .op (.mov (.t 37)), none⟩,
    ⟨(some 38), .op (.ext (.t 31) 0), none⟩,
    ⟨(some 39), .op (.ext (.t 31) 1), none⟩,
    ⟨(some 1), .op (.mov (.t 38)), none⟩,
    ⟨(some 2), .op (.mov (.t 39)), none⟩])
  (.seq (.reg false [⟨(some 40), .op (.mov (.t 2)), none⟩,
    ⟨(some 12), .op (.mov (.t 40)), none⟩])
  (.ret)))))⟩
-- slices.siftDownOrdered[string]
def i81 : IFn := ⟨[],
  .seq (.reg false [⟨(some 10), .op (.mov (.t 1)), none⟩,
    ⟨(some 8), .op (.mov (.t 10)), none⟩])
  (.blk 0 (.loop (.blk 1 (.seq (.reg false [⟨(some 11), .op (.mov (.t 8)), none⟩,
    ⟨(some 12), .op (.bin .mul (.c (.i .i64 2)) (.t 11)), none⟩,
    ⟨(some 13), .op (.bin .add (.t 12) (.c (.i .i64 1))), none⟩,
    ⟨(some 9), .op (.mov (.t 13)), none⟩])
  (.seq (.seq (.reg false [⟨(some 14), .op (.mov (.t 9)), none⟩,
    ⟨(some 15), .op (.mov (.t 2)), none⟩,
    ⟨(some 16), .op (.bin .geq (.t 14) (.t 15)), none⟩])
  (.cond (.t 16) (.exit 0) (.skip)))
  (.seq (.seq (.reg true [⟨(some 17), .op (.mov (.t 9)), none⟩,
    ⟨(some 18), .op (.bin .add (.t 17) (.c (.i .i64 1))), none⟩,
    ⟨(some 19), .op (.mov (.t 2)), none⟩,
    ⟨(some 20), .op (.bin .lss (.t 18) (.t 19)), none⟩,
    ⟨(some 21), .op (.mov (.t 20)), none⟩,
    ⟨(some 22), .op (.mov (.t 0)), (some (21, true))⟩,
    ⟨(some 23), .op (.mov (.t 3)), (some (21, true))⟩,
    ⟨(some 24), .op (.mov (.t 9)), (some (21, true))⟩,
    ⟨(some 25), .op (.bin .add (.t 23) (.t 24)), (some (21, true))⟩,
    ⟨(some 26), .op (.iAddrS 1 (.t 22) (.t 25)), (some (21, true))⟩,
    ⟨(some 27), .op (.load1 (.t 26)), (some (21, true))⟩,
    ⟨(some 28), .op (.mov (.t 0)), (some (21, true))⟩,
    ⟨(some 29), .op (.mov (.t 3)), (some (21, true))⟩,
    ⟨(some 30), .op (.mov (.t 9)), (some (21, true))⟩,
    ⟨(some 31), .op (.bin .add (.t 29) (.t 30)), (some (21, true))⟩,
    ⟨(some 32), .op (.bin .add (.t 31) (.c (.i .i64 1))), (some (21, true))⟩,
    ⟨(some 33), .op (.iAddrS 1 (.t 28) (.t 32)), (some (21, true))⟩,
    ⟨(some 34), .op (.load1 (.t 33)), (some (21, true))⟩,
    ⟨(some 35), .callF 73 [(.t 27), (.t 34)], (some (21, true))⟩,
    ⟨(some 36), .op (.pick (.t 21) (.t 35) (.c (.b false))), none⟩])
  (.cond (.t 36) (.reg false [⟨(some 37), .op (.mov (.t 9)), none⟩,
    ⟨(some 38), .op (.bin .add (.t 37) (.c (.i .i64 1))), none⟩,
    ⟨(some 9), .op (.mov (.t 38)), none⟩]) (.skip)))
  (.seq (.seq (.reg true [⟨(some 39), .op (.mov (.t 0)), none⟩,
    ⟨(some 40), .op (.mov (.t 3)), none⟩,
    ⟨(some 41), .op (.mov (.t 8)), none⟩,
    ⟨(some 42), .op (.bin .add (.t 40) (.t 41)), none⟩,
    ⟨(some 43), .op (.iAddrS 1 (.t 39) (.t 42)), none⟩,
    ⟨(some 44), .op (.load1 (.t 43)), none⟩,
    ⟨(some 45), .op (.mov (.t 0)), none⟩,
    ⟨(some 46), .op (.mov (.t 3)), none⟩,
    ⟨(some 47), .op (.mov (.t 9)), none⟩,
    ⟨(some 48), .op (.bin .add (.t 46) (.t 47)), none⟩,
    ⟨(some 49), .op (.iAddrS 1 (.t 45) (.t 48)), none⟩,
    ⟨(some 50), .op (.load1 (.t 49)), none⟩,
    ⟨(some 51), .callF 73 [(.t 44), (.t 50)], none⟩,
    ⟨(some 52), .op (.un .not (.t 51)), none⟩])
  (.cond (.t 52) (.ret) (.skip)))
  (.seq (.reg true [⟨(some 53), .op (.mov (.t 0)), none⟩,
    ⟨(some 54), .op (.mov (.t 3)), none⟩,
    ⟨(some 55), .op (.mov (.t 8)), none⟩,
    ⟨(some 56), .op (.bin .add (.t 54) (.t 55)), none⟩,
    ⟨(some 57), .op (.mov (.t 0)), none⟩,
    ⟨(some 58), .op (.mov (.t 3)), none⟩,
    ⟨(some 59), .op (.mov (.t 9)), none⟩,
    ⟨(some 60), .op (.bin .add (.t 58) (.t 59)), none⟩,
    ⟨(some 61), .op (.mov (.t 0)), none⟩,
    ⟨(some 62), .op (.mov (.t 3)), none⟩,
    ⟨(some 63), .op (.mov (.t 9)), none⟩,
    ⟨(some 64), .op (.bin .add (.t 62) (.t 63)), none⟩,
    ⟨(some 65), .op (.iAddrS 1 (.t 61) (.t 64)), none⟩,
    ⟨(some 66), .op (.load1 (.t 65)), none⟩,
    ⟨(some 67), .op (.mov (.t 0)), none⟩,
    ⟨(some 68), .op (.mov (.t 3)), none⟩,
    ⟨(some 69), .op (.mov (.t 8)), none⟩,
    ⟨(some 70), .op (.bin .add (.t 68) (.t 69)), none⟩,
    ⟨(some 71), .op (.iAddrS 1 (.t 67) (.t 70)), none⟩,
    ⟨(some 72), .op (.load1 (.t 71)), none⟩,
    ⟨(some 73), .op (.iAddrS 1 (.t 53) (.t 56)), none⟩,
    ⟨none, .op (.store 1 (.t 73) (.t 66)), none⟩,
    ⟨(some 74), .op (.iAddrS 1 (.t 57) (.t 60)), none⟩,
    ⟨none, .op (.store 1 (.t 74) (.t 72)), none⟩])
  (.reg false [⟨(some 75), .op (.mov (.t 9)), none⟩,
    ⟨(some 8), .op (.mov (.t 75)), none⟩])))))))))⟩
-- slices.medianAdjacentOrdered[string]
def i82 : IFn := ⟨[.tmp 6],
  .seq (.reg false [⟨(some 6), .op (.mov (.c (.i .i64 0))), none⟩])
  (.seq (.reg false [⟨(some 7), .op (.mov (.t 0)), none⟩,
    ⟨(some 8), .op (.mov (.t 1)), none⟩,
    ⟨(some 9), .op (.bin .sub (.t 8) (.c (.i .i64 1))), none⟩,
    ⟨(some 10), .op (.mov (.t 1)), none⟩,
    ⟨(some 11), .op (.mov (.t 1)), none⟩,
    ⟨(some 12), .op (.bin .add (.t 11) (.c (.i .i64 1))), none⟩,
    ⟨(some 13), .op (.mov (.t 2)), none⟩,
    ⟨(some 14), .callF 83 [(.t 7), (.t 9), (.t 10), (.t 12), (.t 13)], none⟩,
    ⟨(some 6), .op (.mov (.t 14)), none⟩])
  (.ret))⟩
-- slices.medianOrdered[string]
def i83 : IFn := ⟨[.tmp 10],
  .seq (.reg false [⟨(some 10), .op (.mov (.c (.i .i64 0))), none⟩])
  (.seq (.reg false [⟨(some 12), .op (.mov (.t 0)), none⟩,
    ⟨(some 13), .op (.mov (.t 1)), none⟩,
    ⟨(some 14), .op (.mov (.t 2)), none⟩,
    ⟨(some 15), .op (.mov (.t 4)), none⟩,
    ⟨(some 16), .callF 86 [(.t 12), (.t 13), (.t 14), (.t 15)], none⟩,
    ⟨(some 11), .op (.mov (.t 16)), none⟩,
    ⟨(some 17), .op (.ext (.t 11) 0), none⟩,
    ⟨(some 18), .op (.ext (.t 11) 1), none⟩,
    ⟨(some 1), .op (.mov (.t 17)), none⟩,
    ⟨(some 2), .op (.mov (.t 18)), none⟩])
  (.seq (.reg false [⟨(some 20), .op (.mov (.t 0)), none⟩,
    ⟨(some 21), .op (.mov (.t 2)), none⟩,
    ⟨(some 22), .op (.mov (.t 3)), none⟩,
    ⟨(some 23), .op (.mov (.t 4)), none⟩,
    ⟨(some 24), .callF 86 [(.t 20), (.t 21), (.t 22), (.t 23)], none⟩,
    ⟨(some 19), .op (.mov (.t 24)), none⟩,
    ⟨(some 25), .op (.ext (.t 19) 0), none⟩,
    ⟨(some 26), .op (.ext (.t 19) 1), none⟩,
    ⟨(some 2), .op (.mov (.t 25)), none⟩,
    ⟨(some 3), .op (.mov (.t 26)), none⟩])
  (.seq (.reg false [⟨(some 28), .op (.mov (.t 0)), none⟩,
    ⟨(some 29), .op (.mov (.t 1)), none⟩,
    ⟨(some 30), .op (.mov (.t 2)), none⟩,
    ⟨(some 31), .op (.mov (.t 4)), none⟩,
    ⟨(some 32), .callF 86 [(.t 28), (.t 29), (.t 30), (.t 31)], none⟩,
    ⟨(some 27), .op (.mov (.t 32)), none⟩,
    ⟨(some 33), .op (.ext (.t 27) 0), none⟩,
    ⟨(some 34), .op (.ext (.t 27) 1), none⟩,
    ⟨(some 1), .op (.mov (.t 33)), none⟩,
    ⟨(some 2), .op (.mov (.t 34)), none⟩])
  (.seq (.reg false [⟨(some 35), .op (.mov (.t 2)), none⟩,
    ⟨(some 10), .op (.mov (.t 35)), none⟩])
  (.ret)))))⟩
-- cmp.isNaN[string]
def i84 : IFn := ⟨[.tmp 2],
  .seq (.reg false [⟨(some 2), .op (.mov (.c (.b false))), none⟩])
  (.seq (.reg false [⟨(some 3), .op (.mov (.t 0)), none⟩,
    ⟨(some 4), .op (.mov (.t 0)), none⟩,
    ⟨(some 5), .op (.bin .neq (.t 3) (.t 4)), none⟩,
    ⟨(some 2), .op (.mov (.t 5)), none⟩])
  (.ret))⟩
-- slices.order2CmpFunc[vestibule/api.Call]
def i85 : IFn := ⟨[.tmp 10, .tmp 11],
  .seq (.reg false [⟨(some 10), .op (.mov (.c (.i .i64 0))), none⟩,
    ⟨(some 11), .op (.mov (.c (.i .i64 0))), none⟩])
  (.seq (.seq (.reg true [⟨(some 12), .op (.mov (.t 4)), none⟩,
    ⟨(some 13), .op (.mov (.t 0)), none⟩,
    ⟨(some 14), .op (.mov (.t 2)), none⟩,
    ⟨(some 15), .op (.iAddrS 2 (.t 13) (.t 14)), none⟩,
    ⟨(some 16), .op (.loadN 2 (.t 15)), none⟩,
    ⟨(some 17), .op (.mov (.t 0)), none⟩,
    ⟨(some 18), .op (.mov (.t 1)), none⟩,
    ⟨(some 19), .op (.iAddrS 2 (.t 17) (.t 18)), none⟩,
    ⟨(some 20), .op (.loadN 2 (.t 19)), none⟩,
    ⟨(some 21), .callV (.t 12) [(.t 16), (.t 20)], none⟩,
    ⟨(some 22), .op (.bin .lss (.t 21) (.c (.i .i64 0))), none⟩])
  (.cond (.t 22) (.seq (.reg false [⟨(some 23), .op (.mov (.t 3)), none⟩,
    ⟨(some 24), .op (.nilChk (.t 23)), none⟩,
    ⟨(some 25), .op (.load1 (.t 24)), none⟩,
    ⟨(some 26), .op (.bin .add (.t 25) (.c (.i .i64 1))), none⟩,
    ⟨(some 27), .op (.nilChk (.t 23)), none⟩,
    ⟨none, .op (.store 1 (.t 27) (.t 26)), none⟩])
  (.seq (.reg false [⟨(some 28), .op (.mov (.t 2)), none⟩,
    ⟨(some 29), .op (.mov (.t 1)), none⟩,
    ⟨(some 10), .op (.mov (.t 28)), none⟩,
    ⟨(some 11), .op (.mov (.t 29)), none⟩])
  (.ret))) (.skip)))
  (.seq (.reg false [⟨(some 30), .op (.mov (.t 1)), none⟩,
    ⟨(some 31), .op (.mov (.t 2)), none⟩,
    ⟨(some 10), .op (.mov (.t 30)), none⟩,
    ⟨(some 11), .op (.mov (.t 31)), none⟩])
  (.ret)))⟩
-- slices.order2Ordered[string]
def i86 : IFn := ⟨[.tmp 8, .tmp 9],
  .seq (.reg false [⟨(some 8), .op (.mov (.c (.i .i64 0))), none⟩,
    ⟨(some 9), .op (.mov (.c (.i .i64 0))), none⟩])
  (.seq (.seq (.reg true [⟨(some 10), .op (.mov (.t 0)), none⟩,
    ⟨(some 11), .op (.mov (.t 2)), none⟩,
    ⟨(some 12), .op (.iAddrS 1 (.t 10) (.t 11)), none⟩,
    ⟨(some 13), .op (.load1 (.t 12)), none⟩,
    ⟨(some 14), .op (.mov (.t 0)), none⟩,
    ⟨(some 15), .op (.mov (.t 1)), none⟩,
    ⟨(some 16), .op (.iAddrS 1 (.t 14) (.t 15)), none⟩,
    ⟨(some 17), .op (.load1 (.t 16)), none⟩,
    ⟨(some 18), .callF 73 [(.t 13), (.t 17)], none⟩])
  (.cond (.t 18) (.seq (.reg false [⟨(some 19), .op (.mov (.t 3)), none⟩,
    ⟨(some 20), .op (.nilChk (.t 19)), none⟩,
    ⟨(some 21), .op (.load1 (.t 20)), none⟩,
    ⟨(some 22), .op (.bin .add (.t 21) (.c (.i .i64 1))), none⟩,
    ⟨(some 23), .op (.nilChk (.t 19)), none⟩,
    ⟨none, .op (.store 1 (.t 23) (.t 22)), none⟩])
  (.seq (.reg false [⟨(some 24), .op (.mov (.t 2)), none⟩,
    ⟨(some 25), .op (.mov (.t 1)), none⟩,
    ⟨(some 8), .op (.mov (.t 24)), none⟩,
    ⟨(some 9), .op (.mov (.t 25)), none⟩])
  (.ret))) (.skip)))
  (.seq (.reg false [⟨(some 26), .op (.mov (.t 1)), none⟩,
    ⟨(some 27), .op (.mov (.t 2)), none⟩,
    ⟨(some 8), .op (.mov (.t 26)), none⟩,
    ⟨(some 9), .op (.mov (.t 27)), none⟩])
  (.ret)))⟩
end Go.Proofs.Ytpggfccbfplphaa.Ir
