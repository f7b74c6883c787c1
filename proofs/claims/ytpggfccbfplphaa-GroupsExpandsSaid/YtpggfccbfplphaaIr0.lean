/- The code of functions of this seat, as the abstract machine has it, part 0. No condition: 'Ok0' shows that it is the program's. -/
import Derived.Test.YtpggfccbfplphaaCore2
namespace Go.Proofs.Ytpggfccbfplphaa.Ir
open Go.Ab
-- gosem.cut.init
def i2 : IFn := ⟨[],
  .reg false [⟨(some 0), .callF 1 [], none⟩]⟩
-- vestibule/vestibulelaw09.CallsTells
def i3 : IFn := ⟨[.tmp 6],
  .seq (.reg false [⟨(some 6), .op (.mov (.c (.b false))), none⟩])
  (.seq (.seq (.reg false [⟨(some 14), .op (.mov (.t 1)), none⟩,
    ⟨(some 15), .op (.len true (.t 14)), none⟩,
    ⟨(some 16), .op (.bin .gtr (.t 15) (.c (.i .i64 200))), none⟩])
  (.cond (.t 16) (.seq (.reg false [⟨(some 6), .op (.mov (.c (.b true))), none⟩])
  (.ret)) (.skip)))
  (.seq (.reg false [⟨(some 18), .op (.mov (.t 0)), none⟩,
    ⟨(some 19), .op (.mov (.t 1)), none⟩,
    ⟨(some 20), .callF 11 [(.t 18), (.t 19)], none⟩,
    ⟨(some 17), .op (.mov (.t 20)), none⟩,
    ⟨(some 21), .op (.ext (.t 17) 0), none⟩,
    ⟨(some 22), .op (.ext (.t 17) 1), none⟩,
    ⟨(some 7), .op (.mov (.t 21)), none⟩,
    ⟨(some 8), .op (.mov (.t 22)), none⟩])
  (.seq (.reg false [⟨(some 24), .op (.mov (.t 0)), none⟩,
    ⟨(some 25), .op (.mov (.t 1)), none⟩,
    ⟨(some 26), .callF 12 [(.t 24), (.t 25)], none⟩,
    ⟨(some 23), .op (.mov (.t 26)), none⟩,
    ⟨(some 27), .op (.ext (.t 23) 0), none⟩,
    ⟨(some 28), .op (.ext (.t 23) 1), none⟩,
    ⟨(some 9), .op (.mov (.t 27)), none⟩,
    ⟨(some 10), .op (.mov (.t 28)), none⟩])
  (.seq (.reg false [⟨(some 29), .callF 13 [], none⟩,
    ⟨(some 30), .callF 14 [], none⟩,
    ⟨(some 11), .op (.mov (.t 29)), none⟩,
    ⟨(some 12), .op (.mov (.t 30)), none⟩])
  (.seq (.seq (.reg false [⟨(some 31), .op (.mov (.t 11)), none⟩,
    ⟨(some 32), .op (.len false (.t 31)), none⟩,
    ⟨(some 33), .op (.mov (.t 12)), none⟩,
    ⟨(some 34), .op (.len false (.t 33)), none⟩,
    ⟨(some 35), .op (.bin .neq (.t 32) (.t 34)), none⟩,
    ⟨(some 36), .op (.mov (.t 35)), none⟩,
    ⟨(some 37), .op (.mov (.t 7)), (some (36, false))⟩,
    ⟨(some 38), .op (.mov (.t 9)), (some (36, false))⟩,
    ⟨(some 39), .op (.bin .neq (.t 37) (.t 38)), (some (36, false))⟩,
    ⟨(some 40), .op (.pick (.t 36) (.c (.b true)) (.t 39)), none⟩,
    ⟨(some 41), .op (.mov (.t 40)), none⟩,
    ⟨(some 42), .op (.mov (.t 8)), (some (41, false))⟩,
    ⟨(some 43), .op (.mov (.t 10)), (some (41, false))⟩,
    ⟨(some 44), .op (.bin .neq (.t 42) (.t 43)), (some (41, false))⟩,
    ⟨(some 45), .op (.pick (.t 41) (.c (.b true)) (.t 44)), none⟩,
    ⟨(some 46), .op (.mov (.t 45)), none⟩,
    ⟨(some 47), .op (.mov (.t 1)), (some (46, false))⟩,
    ⟨(some 48), .callF 15 [(.t 47)], (some (46, false))⟩,
    ⟨(some 49), .op (.mov (.t 1)), (some (46, false))⟩,
    ⟨(some 50), .callF 16 [(.t 49)], (some (46, false))⟩,
    ⟨(some 51), .op (.eqB true (.t 48) (.t 50)), (some (46, false))⟩,
    ⟨(some 52), .op (.pick (.t 46) (.c (.b true)) (.t 51)), none⟩])
  (.cond (.t 52) (.seq (.reg false [⟨(some 6), .op (.mov (.c (.b false))), none⟩])
  (.ret)) (.skip)))
  (.seq (.seq (.reg false [⟨(some 13), .op (.mov (.c (.i .i64 0))), none⟩])
  (.blk 0 (.loop (.seq (.seq (.reg false [⟨(some 53), .op (.mov (.t 13)), none⟩,
    ⟨(some 54), .op (.mov (.t 11)), none⟩,
    ⟨(some 55), .op (.len false (.t 54)), none⟩,
    ⟨(some 56), .op (.bin .lss (.t 53) (.t 55)), none⟩])
  (.cond (.t 56) (.skip) (.exit 0)))
  (.seq (.blk 1 (.seq (.reg true [⟨(some 59), .op (.mov (.t 11)), none⟩,
    ⟨(some 60), .op (.mov (.t 13)), none⟩,
    ⟨(some 61), .op (.iAddrS 1 (.t 59) (.t 60)), none⟩,
    ⟨(some 62), .op (.load1 (.t 61)), none⟩,
    ⟨(some 63), .op (.mov (.t 12)), none⟩,
    ⟨(some 64), .op (.mov (.t 13)), none⟩,
    ⟨(some 65), .op (.iAddrS 1 (.t 63) (.t 64)), none⟩,
    ⟨(some 66), .op (.load1 (.t 65)), none⟩,
    ⟨(some 67), .op (.bin .neq (.t 62) (.t 66)), none⟩])
  (.cond (.t 67) (.seq (.reg false [⟨(some 6), .op (.mov (.c (.b false))), none⟩])
  (.ret)) (.skip))))
  (.reg false [⟨(some 57), .op (.mov (.t 13)), none⟩,
    ⟨(some 58), .op (.bin .add (.t 57) (.c (.i .i64 1))), none⟩,
    ⟨(some 13), .op (.mov (.t 58)), none⟩]))))))
  (.seq (.reg false [⟨(some 68), .op (.mov (.t 0)), none⟩,
    ⟨(some 69), .op (.mov (.t 2)), none⟩,
    ⟨(some 70), .callF 17 [(.t 68), (.t 69)], none⟩,
    ⟨(some 71), .op (.mov (.t 0)), none⟩,
    ⟨(some 72), .op (.mov (.t 2)), none⟩,
    ⟨(some 73), .callF 18 [(.t 71), (.t 72)], none⟩,
    ⟨(some 74), .op (.bin .eql (.t 70) (.t 73)), none⟩,
    ⟨(some 75), .op (.mov (.t 74)), none⟩,
    ⟨(some 76), .callF 19 [], (some (75, true))⟩,
    ⟨(some 77), .op (.pick (.t 75) (.t 76) (.c (.b false))), none⟩,
    ⟨(some 6), .op (.mov (.t 77)), none⟩])
  (.ret))))))))⟩
-- vestibule/vestibulelaw09.CallsAll
def i4 : IFn := ⟨[.tmp 2],
  .seq (.reg false [⟨(some 2), .op (.mov (.c (.b false))), none⟩])
  (.seq (.reg false [⟨(some 6), .op (.mov (.t 0)), none⟩,
    ⟨(some 7), .callF 20 [(.t 6)], none⟩,
    ⟨(some 8), .op (.mov (.t 0)), none⟩,
    ⟨(some 9), .callF 21 [(.t 8)], none⟩,
    ⟨(some 3), .op (.mov (.t 7)), none⟩,
    ⟨(some 4), .op (.mov (.t 9)), none⟩])
  (.seq (.seq (.reg false [⟨(some 10), .op (.mov (.t 3)), none⟩,
    ⟨(some 11), .op (.len false (.t 10)), none⟩,
    ⟨(some 12), .op (.mov (.t 4)), none⟩,
    ⟨(some 13), .op (.len false (.t 12)), none⟩,
    ⟨(some 14), .op (.bin .neq (.t 11) (.t 13)), none⟩])
  (.cond (.t 14) (.seq (.reg false [⟨(some 2), .op (.mov (.c (.b false))), none⟩])
  (.ret)) (.skip)))
  (.seq (.seq (.reg false [⟨(some 5), .op (.mov (.c (.i .i64 0))), none⟩])
  (.blk 0 (.loop (.seq (.seq (.reg false [⟨(some 15), .op (.mov (.t 5)), none⟩,
    ⟨(some 16), .op (.mov (.t 3)), none⟩,
    ⟨(some 17), .op (.len false (.t 16)), none⟩,
    ⟨(some 18), .op (.bin .lss (.t 15) (.t 17)), none⟩])
  (.cond (.t 18) (.skip) (.exit 0)))
  (.seq (.blk 1 (.seq (.seq (.reg true [⟨(some 21), .op (.mov (.t 3)), none⟩,
    ⟨(some 22), .op (.mov (.t 5)), none⟩,
    ⟨(some 23), .op (.iAddrS 2 (.t 21) (.t 22)), none⟩,
    ⟨(some 24), .op (.loadN 2 (.t 23)), none⟩,
    ⟨(some 25), .op (.mov (.t 4)), none⟩,
    ⟨(some 26), .op (.mov (.t 5)), none⟩,
    ⟨(some 27), .op (.iAddrS 2 (.t 25) (.t 26)), none⟩,
    ⟨(some 28), .op (.loadN 2 (.t 27)), none⟩,
    ⟨(some 29), .op (.eqA true [.s, .i] (.t 24) (.t 28)), none⟩])
  (.cond (.t 29) (.seq (.reg false [⟨(some 2), .op (.mov (.c (.b false))), none⟩])
  (.ret)) (.skip)))
  (.reg false [⟨(some 30), .op (.mov (.t 3)), none⟩,
    ⟨(some 31), .op (.mov (.t 5)), none⟩,
    ⟨(some 32), .op (.iAddrS 2 (.t 30) (.t 31)), none⟩,
    ⟨(some 33), .op (.fAddr 0 (.t 32)), none⟩,
    ⟨none, .op (.store 1 (.t 33) (.c (.s [103, 111, 110, 101]))), none⟩])))
  (.reg false [⟨(some 19), .op (.mov (.t 5)), none⟩,
    ⟨(some 20), .op (.bin .add (.t 19) (.c (.i .i64 1))), none⟩,
    ⟨(some 5), .op (.mov (.t 20)), none⟩]))))))
  (.seq (.reg true [⟨(some 34), .op (.mov (.t 0)), none⟩,
    ⟨(some 35), .callF 20 [(.t 34)], none⟩,
    ⟨(some 36), .op (.len false (.t 35)), none⟩,
    ⟨(some 37), .op (.mov (.t 4)), none⟩,
    ⟨(some 38), .op (.len false (.t 37)), none⟩,
    ⟨(some 39), .op (.bin .eql (.t 36) (.t 38)), none⟩,
    ⟨(some 40), .op (.mov (.t 39)), none⟩,
    ⟨(some 41), .op (.mov (.t 4)), (some (40, true))⟩,
    ⟨(some 42), .op (.len false (.t 41)), (some (40, true))⟩,
    ⟨(some 43), .op (.bin .eql (.t 42) (.c (.i .i64 0))), (some (40, true))⟩,
    ⟨(some 44), .op (.mov (.t 43)), (some (40, true))⟩,
    ⟨(some 45), .op (.mov (.t 0)), (some (44, false))⟩,
    ⟨(some 46), .callF 20 [(.t 45)], (some (44, false))⟩,
    ⟨(some 47), .op (.iAddrS 2 (.t 46) (.c (.i .i64 0))), (some (44, false))⟩,
    ⟨(some 48), .op (.loadN 2 (.t 47)), (some (44, false))⟩,
    ⟨(some 49), .op (.mov (.t 4)), (some (44, false))⟩,
    ⟨(some 50), .op (.iAddrS 2 (.t 49) (.c (.i .i64 0))), (some (44, false))⟩,
    ⟨(some 51), .op (.loadN 2 (.t 50)), (some (44, false))⟩,
    ⟨(some 52), .op (.eqA false [.s, .i] (.t 48) (.t 51)), (some (44, false))⟩,
    ⟨(some 53), .op (.pick (.t 44) (.c (.b true)) (.t 52)), (some (40, true))⟩,
    ⟨(some 54), .op (.pick (.t 40) (.t 53) (.c (.b false))), none⟩,
    ⟨(some 55), .op (.mov (.t 54)), none⟩,
    ⟨(some 56), .callF 19 [], (some (55, true))⟩,
    ⟨(some 57), .op (.pick (.t 55) (.t 56) (.c (.b false))), none⟩,
    ⟨(some 2), .op (.mov (.t 57)), none⟩])
  (.ret)))))⟩
-- vestibule/vestibulelaw09.CallsOne
def i5 : IFn := ⟨[.tmp 4],
  .seq (.reg false [⟨(some 4), .op (.mov (.c (.b false))), none⟩])
  (.seq (.reg false [⟨(some 10), .op (.mov (.t 0)), none⟩,
    ⟨(some 11), .op (.cvInt .u64 (.t 10)), none⟩,
    ⟨(some 12), .op (.bin .rem (.t 11) (.c (.i .u64 6))), none⟩,
    ⟨(some 13), .op (.cvInt .i64 (.t 12)), none⟩,
    ⟨(some 0), .op (.mov (.t 13)), none⟩])
  (.seq (.reg false [⟨(some 14), .op (.mov (.t 0)), none⟩,
    ⟨(some 15), .callF 20 [(.t 14)], none⟩,
    ⟨(some 5), .op (.mov (.t 15)), none⟩])
  (.seq (.seq (.reg false [⟨(some 16), .op (.mov (.t 5)), none⟩,
    ⟨(some 17), .op (.len false (.t 16)), none⟩,
    ⟨(some 18), .op (.bin .eql (.t 17) (.c (.i .i64 0))), none⟩])
  (.cond (.t 18) (.seq (.reg false [⟨(some 4), .op (.mov (.c (.b false))), none⟩])
  (.ret)) (.skip)))
  (.seq (.reg false [⟨(some 6), .op (.mov (.c (.b false))), none⟩])
  (.seq (.seq (.reg false [⟨(some 7), .op (.mov (.c (.i .i64 0))), none⟩])
  (.blk 0 (.loop (.seq (.seq (.reg false [⟨(some 19), .op (.mov (.t 7)), none⟩,
    ⟨(some 20), .op (.mov (.t 5)), none⟩,
    ⟨(some 21), .op (.len false (.t 20)), none⟩,
    ⟨(some 22), .op (.bin .lss (.t 19) (.t 21)), none⟩])
  (.cond (.t 22) (.skip) (.exit 0)))
  (.seq (.blk 1 (.seq (.reg false [⟨(some 26), .op (.mov (.t 0)), none⟩,
    ⟨(some 27), .op (.mov (.t 5)), none⟩,
    ⟨(some 28), .op (.mov (.t 7)), none⟩,
    ⟨(some 29), .op (.iAddrS 2 (.t 27) (.t 28)), none⟩,
    ⟨(some 30), .op (.fAddr 0 (.t 29)), none⟩,
    ⟨(some 31), .op (.load1 (.t 30)), none⟩,
    ⟨(some 32), .callF 11 [(.t 26), (.t 31)], none⟩,
    ⟨(some 25), .op (.mov (.t 32)), none⟩,
    ⟨(some 33), .op (.ext (.t 25) 0), none⟩,
    ⟨(some 34), .op (.ext (.t 25) 1), none⟩,
    ⟨(some 8), .op (.mov (.t 33)), none⟩,
    ⟨(some 9), .op (.mov (.t 34)), none⟩])
  (.seq (.seq (.reg true [⟨(some 35), .op (.mov (.t 9)), none⟩,
    ⟨(some 36), .op (.bin .neq (.t 35) (.c (.i .i64 0))), none⟩,
    ⟨(some 37), .op (.mov (.t 36)), none⟩,
    ⟨(some 38), .op (.mov (.t 8)), (some (37, false))⟩,
    ⟨(some 39), .op (.mov (.t 5)), (some (37, false))⟩,
    ⟨(some 40), .op (.mov (.t 7)), (some (37, false))⟩,
    ⟨(some 41), .op (.iAddrS 2 (.t 39) (.t 40)), (some (37, false))⟩,
    ⟨(some 42), .op (.fAddr 1 (.t 41)), (some (37, false))⟩,
    ⟨(some 43), .op (.load1 (.t 42)), (some (37, false))⟩,
    ⟨(some 44), .op (.bin .neq (.t 38) (.t 43)), (some (37, false))⟩,
    ⟨(some 45), .op (.pick (.t 37) (.c (.b true)) (.t 44)), none⟩,
    ⟨(some 46), .op (.mov (.t 45)), none⟩,
    ⟨(some 47), .op (.mov (.t 0)), (some (46, false))⟩,
    ⟨(some 48), .op (.mov (.t 8)), (some (46, false))⟩,
    ⟨(some 49), .callF 17 [(.t 47), (.t 48)], (some (46, false))⟩,
    ⟨(some 50), .op (.mov (.t 5)), (some (46, false))⟩,
    ⟨(some 51), .op (.mov (.t 7)), (some (46, false))⟩,
    ⟨(some 52), .op (.iAddrS 2 (.t 50) (.t 51)), (some (46, false))⟩,
    ⟨(some 53), .op (.fAddr 0 (.t 52)), (some (46, false))⟩,
    ⟨(some 54), .op (.load1 (.t 53)), (some (46, false))⟩,
    ⟨(some 55), .op (.bin .neq (.t 49) (.t 54)), (some (46, false))⟩,
    ⟨(some 56), .op (.pick (.t 46) (.c (.b true)) (.t 55)), none⟩,
    ⟨(some 57), .op (.mov (.t 56)), none⟩,
    ⟨(some 58), .op (.mov (.t 8)), (some (57, false))⟩,
    ⟨(some 59), .op (.bin .geq (.t 58) (.c (.i .u32 1073741824))), (some (57, false))⟩,
    ⟨(some 60), .op (.mov (.t 0)), (some (57, false))⟩,
    ⟨(some 61), .op (.bin .eql (.t 60) (.c (.i .i64 2))), (some (57, false))⟩,
    ⟨(some 62), .op (.eqB true (.t 59) (.t 61)), (some (57, false))⟩,
    ⟨(some 63), .op (.pick (.t 57) (.c (.b true)) (.t 62)), none⟩,
    ⟨(some 64), .op (.mov (.t 63)), none⟩,
    ⟨(some 65), .op (.mov (.t 7)), (some (64, false))⟩,
    ⟨(some 66), .op (.bin .gtr (.t 65) (.c (.i .i64 0))), (some (64, false))⟩,
    ⟨(some 67), .op (.mov (.t 66)), (some (64, false))⟩,
    ⟨(some 68), .op (.mov (.t 5)), (some (67, true))⟩,
    ⟨(some 69), .op (.mov (.t 7)), (some (67, true))⟩,
    ⟨(some 70), .op (.bin .sub (.t 69) (.c (.i .i64 1))), (some (67, true))⟩,
    ⟨(some 71), .op (.iAddrS 2 (.t 68) (.t 70)), (some (67, true))⟩,
    ⟨(some 72), .op (.fAddr 1 (.t 71)), (some (67, true))⟩,
    ⟨(some 73), .op (.load1 (.t 72)), (some (67, true))⟩,
    ⟨(some 74), .op (.mov (.t 8)), (some (67, true))⟩,
    ⟨(some 75), .op (.bin .geq (.t 73) (.t 74)), (some (67, true))⟩,
    ⟨(some 76), .op (.pick (.t 67) (.t 75) (.c (.b false))), (some (64, false))⟩,
    ⟨(some 77), .op (.pick (.t 64) (.c (.b true)) (.t 76)), none⟩,
    ⟨(some 78), .op (.mov (.t 77)), none⟩,
    ⟨(some 79), .op (.mov (.t 5)), (some (78, false))⟩,
    ⟨(some 80), .op (.mov (.t 7)), (some (78, false))⟩,
    ⟨(some 81), .op (.iAddrS 2 (.t 79) (.t 80)), (some (78, false))⟩,
    ⟨(some 82), .op (.fAddr 0 (.t 81)), (some (78, false))⟩,
    ⟨(some 83), .op (.load1 (.t 82)), (some (78, false))⟩,
    ⟨(some 84), .callF 15 [(.t 83)], (some (78, false))⟩,
    ⟨(some 85), .op (.un .not (.t 84)), (some (78, false))⟩,
    ⟨(some 86), .op (.pick (.t 78) (.c (.b true)) (.t 85)), none⟩])
  (.cond (.t 86) (.seq (.reg false [⟨(some 4), .op (.mov (.c (.b false))), none⟩])
  (.ret)) (.skip)))
  (.reg false [⟨(some 87), .op (.mov (.t 6)), none⟩,
    ⟨(some 88), .op (.mov (.t 87)), none⟩,
    ⟨(some 89), .op (.mov (.t 8)), (some (88, false))⟩,
    ⟨(some 90), .op (.mov (.t 1)), (some (88, false))⟩,
    ⟨(some 91), .op (.bin .eql (.t 89) (.t 90)), (some (88, false))⟩,
    ⟨(some 92), .op (.pick (.t 88) (.c (.b true)) (.t 91)), none⟩,
    ⟨(some 6), .op (.mov (.t 92)), none⟩]))))
  (.reg false [⟨(some 23), .op (.mov (.t 7)), none⟩,
    ⟨(some 24), .op (.bin .add (.t 23) (.c (.i .i64 1))), none⟩,
    ⟨(some 7), .op (.mov (.t 24)), none⟩]))))))
  (.seq (.reg false [⟨(some 93), .op (.mov (.t 0)), none⟩,
    ⟨(some 94), .op (.mov (.t 1)), none⟩,
    ⟨(some 95), .callF 17 [(.t 93), (.t 94)], none⟩,
    ⟨(some 96), .op (.bin .neq (.t 95) (.c (.s []))), none⟩,
    ⟨(some 97), .op (.mov (.t 6)), none⟩,
    ⟨(some 98), .op (.eqB false (.t 96) (.t 97)), none⟩,
    ⟨(some 99), .op (.mov (.t 98)), none⟩,
    ⟨(some 100), .callF 19 [], (some (99, true))⟩,
    ⟨(some 101), .op (.pick (.t 99) (.t 100) (.c (.b false))), none⟩,
    ⟨(some 4), .op (.mov (.t 101)), none⟩])
  (.ret)))))))⟩
-- vestibule/vestibulelaw09.CallsKnown
def i6 : IFn := ⟨[.tmp 4],
  .seq (.reg false [⟨(some 4), .op (.mov (.c (.b false))), none⟩])
  (.seq (.seq (.reg false [⟨(some 13), .op (.mov (.t 0)), none⟩,
    ⟨(some 14), .op (.len true (.t 13)), none⟩,
    ⟨(some 15), .op (.bin .gtr (.t 14) (.c (.i .i64 200))), none⟩])
  (.cond (.t 15) (.seq (.reg false [⟨(some 16), .callF 19 [], none⟩,
    ⟨(some 4), .op (.mov (.t 16)), none⟩])
  (.ret)) (.skip)))
  (.seq (.reg false [⟨(some 17), .callF 13 [], none⟩,
    ⟨(some 5), .op (.mov (.t 17)), none⟩])
  (.seq (.reg false [⟨(some 6), .op (.mov (.c (.b false))), none⟩])
  (.seq (.seq (.reg false [⟨(some 7), .op (.mov (.c (.i .i64 0))), none⟩])
  (.blk 0 (.loop (.seq (.seq (.reg false [⟨(some 18), .op (.mov (.t 7)), none⟩,
    ⟨(some 19), .op (.mov (.t 5)), none⟩,
    ⟨(some 20), .op (.len false (.t 19)), none⟩,
    ⟨(some 21), .op (.bin .lss (.t 18) (.t 20)), none⟩])
  (.cond (.t 21) (.skip) (.exit 0)))
  (.seq (.blk 1 (.seq (.seq (.reg true [⟨(some 24), .op (.mov (.t 7)), none⟩,
    ⟨(some 25), .op (.bin .gtr (.t 24) (.c (.i .i64 0))), none⟩,
    ⟨(some 26), .op (.mov (.t 25)), none⟩,
    ⟨(some 27), .op (.mov (.t 5)), (some (26, true))⟩,
    ⟨(some 28), .op (.mov (.t 7)), (some (26, true))⟩,
    ⟨(some 29), .op (.bin .sub (.t 28) (.c (.i .i64 1))), (some (26, true))⟩,
    ⟨(some 30), .op (.iAddrS 1 (.t 27) (.t 29)), (some (26, true))⟩,
    ⟨(some 31), .op (.load1 (.t 30)), (some (26, true))⟩,
    ⟨(some 32), .op (.mov (.t 5)), (some (26, true))⟩,
    ⟨(some 33), .op (.mov (.t 7)), (some (26, true))⟩,
    ⟨(some 34), .op (.iAddrS 1 (.t 32) (.t 33)), (some (26, true))⟩,
    ⟨(some 35), .op (.load1 (.t 34)), (some (26, true))⟩,
    ⟨(some 36), .op (.bin .geq (.t 31) (.t 35)), (some (26, true))⟩,
    ⟨(some 37), .op (.pick (.t 26) (.t 36) (.c (.b false))), none⟩])
  (.cond (.t 37) (.seq (.reg false [⟨(some 4), .op (.mov (.c (.b false))), none⟩])
  (.ret)) (.skip)))
  (.reg false [⟨(some 38), .op (.mov (.t 6)), none⟩,
    ⟨(some 39), .op (.mov (.t 38)), none⟩,
    ⟨(some 40), .op (.mov (.t 5)), (some (39, false))⟩,
    ⟨(some 41), .op (.mov (.t 7)), (some (39, false))⟩,
    ⟨(some 42), .op (.iAddrS 1 (.t 40) (.t 41)), (some (39, false))⟩,
    ⟨(some 43), .op (.load1 (.t 42)), (some (39, false))⟩,
    ⟨(some 44), .op (.mov (.t 0)), (some (39, false))⟩,
    ⟨(some 45), .op (.bin .eql (.t 43) (.t 44)), (some (39, false))⟩,
    ⟨(some 46), .op (.pick (.t 39) (.c (.b true)) (.t 45)), none⟩,
    ⟨(some 6), .op (.mov (.t 46)), none⟩])))
  (.reg false [⟨(some 22), .op (.mov (.t 7)), none⟩,
    ⟨(some 23), .op (.bin .add (.t 22) (.c (.i .i64 1))), none⟩,
    ⟨(some 7), .op (.mov (.t 23)), none⟩]))))))
  (.seq (.reg false [⟨(some 47), .op (.mov (.t 1)), none⟩,
    ⟨(some 48), .callF 20 [(.t 47)], none⟩,
    ⟨(some 8), .op (.mov (.t 48)), none⟩])
  (.seq (.reg false [⟨(some 9), .op (.mov (.c (.b false))), none⟩])
  (.seq (.seq (.reg false [⟨(some 10), .op (.mov (.c (.i .i64 0))), none⟩])
  (.blk 2 (.loop (.seq (.seq (.reg false [⟨(some 49), .op (.mov (.t 10)), none⟩,
    ⟨(some 50), .op (.mov (.t 8)), none⟩,
    ⟨(some 51), .op (.len false (.t 50)), none⟩,
    ⟨(some 52), .op (.bin .lss (.t 49) (.t 51)), none⟩])
  (.cond (.t 52) (.skip) (.exit 2)))
  (.seq (.blk 3 (.reg false [⟨(some 55), .op (.mov (.t 9)), none⟩,
    ⟨(some 56), .op (.mov (.t 55)), none⟩,
    ⟨(some 57), .op (.mov (.t 8)), (some (56, false))⟩,
    ⟨(some 58), .op (.mov (.t 10)), (some (56, false))⟩,
    ⟨(some 59), .op (.iAddrS 2 (.t 57) (.t 58)), (some (56, false))⟩,
    ⟨(some 60), .op (.fAddr 0 (.t 59)), (some (56, false))⟩,
    ⟨(some 61), .op (.load1 (.t 60)), (some (56, false))⟩,
    ⟨(some 62), .op (.mov (.t 0)), (some (56, false))⟩,
    ⟨(some 63), .op (.bin .eql (.t 61) (.t 62)), (some (56, false))⟩,
    ⟨(some 64), .op (.pick (.t 56) (.c (.b true)) (.t 63)), none⟩,
    ⟨(some 9), .op (.mov (.t 64)), none⟩]))
  (.reg false [⟨(some 53), .op (.mov (.t 10)), none⟩,
    ⟨(some 54), .op (.bin .add (.t 53) (.c (.i .i64 1))), none⟩,
    ⟨(some 10), .op (.mov (.t 54)), none⟩]))))))
  (.seq (.reg false [⟨(some 66), .op (.mov (.t 1)), none⟩,
    ⟨(some 67), .op (.mov (.t 0)), none⟩,
    ⟨(some 68), .callF 11 [(.t 66), (.t 67)], none⟩,
    ⟨(some 65), .op (.mov (.t 68)), none⟩,
    ⟨(some 69), .op (.ext (.t 65) 0), none⟩,
    ⟨(some 70), .op (.ext (.t 65) 1), none⟩,
    ⟨(some 11), .op (.mov (.t 69)), none⟩,
    ⟨(some 12), .op (.mov (.t 70)), none⟩])
  (.seq (.reg false [⟨(some 71), .op (.mov (.t 0)), none⟩,
    ⟨(some 72), .callF 15 [(.t 71)], none⟩,
    ⟨(some 73), .op (.mov (.t 6)), none⟩,
    ⟨(some 74), .op (.eqB false (.t 72) (.t 73)), none⟩,
    ⟨(some 75), .op (.mov (.t 74)), none⟩,
    ⟨(some 76), .op (.mov (.t 12)), (some (75, true))⟩,
    ⟨(some 77), .op (.bin .eql (.t 76) (.c (.i .i64 0))), (some (75, true))⟩,
    ⟨(some 78), .op (.mov (.t 9)), (some (75, true))⟩,
    ⟨(some 79), .op (.eqB false (.t 77) (.t 78)), (some (75, true))⟩,
    ⟨(some 80), .op (.pick (.t 75) (.t 79) (.c (.b false))), none⟩,
    ⟨(some 81), .op (.mov (.t 80)), none⟩,
    ⟨(some 82), .op (.mov (.t 6)), (some (81, true))⟩,
    ⟨(some 83), .op (.mov (.t 82)), (some (81, true))⟩,
    ⟨(some 84), .op (.mov (.t 9)), (some (83, false))⟩,
    ⟨(some 85), .op (.un .not (.t 84)), (some (83, false))⟩,
    ⟨(some 86), .op (.pick (.t 83) (.c (.b true)) (.t 85)), (some (81, true))⟩,
    ⟨(some 87), .op (.pick (.t 81) (.t 86) (.c (.b false))), none⟩,
    ⟨(some 88), .op (.mov (.t 87)), none⟩,
    ⟨(some 89), .callF 19 [], (some (88, true))⟩,
    ⟨(some 90), .op (.pick (.t 88) (.t 89) (.c (.b false))), none⟩,
    ⟨(some 4), .op (.mov (.t 90)), none⟩])
  (.ret))))))))))⟩
-- vestibule/vestibulelaw11.GroupsExpands
def i7 : IFn := ⟨[.tmp 2],
  .seq (.reg false [⟨(some 2), .op (.mov (.c (.b false))), none⟩])
  (.seq (.seq (.reg false [⟨(some 7), .op (.mov (.t 0)), none⟩,
    ⟨(some 8), .op (.len true (.t 7)), none⟩,
    ⟨(some 9), .op (.bin .gtr (.t 8) (.c (.i .i64 200))), none⟩])
  (.cond (.t 9) (.seq (.reg false [⟨(some 2), .op (.mov (.c (.b true))), none⟩])
  (.ret)) (.skip)))
  (.seq (.reg false [⟨(some 11), .op (.mov (.t 0)), none⟩,
    ⟨(some 12), .callF 22 [(.t 11)], none⟩,
    ⟨(some 10), .op (.mov (.t 12)), none⟩,
    ⟨(some 13), .op (.ext (.t 10) 0), none⟩,
    ⟨(some 14), .op (.ext (.t 10) 1), none⟩,
    ⟨(some 3), .op (.mov (.t 13)), none⟩,
    ⟨(some 4), .op (.mov (.t 14)), none⟩])
  (.seq (.reg false [⟨(some 16), .op (.mov (.t 0)), none⟩,
    ⟨(some 17), .callF 23 [(.t 16)], none⟩,
    ⟨(some 15), .op (.mov (.t 17)), none⟩,
    ⟨(some 18), .op (.ext (.t 15) 0), none⟩,
    ⟨(some 19), .op (.ext (.t 15) 1), none⟩,
    ⟨(some 5), .op (.mov (.t 18)), none⟩,
    ⟨(some 6), .op (.mov (.t 19)), none⟩])
  (.seq (.reg false [⟨(some 20), .op (.mov (.t 3)), none⟩,
    ⟨(some 21), .op (.mov (.t 5)), none⟩,
    ⟨(some 22), .callF 24 [(.t 20), (.t 21)], none⟩,
    ⟨(some 23), .op (.mov (.t 22)), none⟩,
    ⟨(some 24), .op (.mov (.t 4)), (some (23, true))⟩,
    ⟨(some 25), .op (.mov (.t 6)), (some (23, true))⟩,
    ⟨(some 26), .op (.bin .eql (.t 24) (.t 25)), (some (23, true))⟩,
    ⟨(some 27), .op (.pick (.t 23) (.t 26) (.c (.b false))), none⟩,
    ⟨(some 28), .op (.mov (.t 27)), none⟩,
    ⟨(some 29), .callF 25 [], (some (28, true))⟩,
    ⟨(some 30), .op (.pick (.t 28) (.t 29) (.c (.b false))), none⟩,
    ⟨(some 2), .op (.mov (.t 30)), none⟩])
  (.ret)))))⟩
-- vestibule/vestibulelaw11.GroupsTells
def i8 : IFn := ⟨[.tmp 2],
  .seq (.reg false [⟨(some 2), .op (.mov (.c (.b false))), none⟩])
  (.seq (.seq (.reg false [⟨(some 8), .op (.mov (.t 0)), none⟩,
    ⟨(some 9), .op (.len true (.t 8)), none⟩,
    ⟨(some 10), .op (.bin .gtr (.t 9) (.c (.i .i64 200))), none⟩])
  (.cond (.t 10) (.seq (.reg false [⟨(some 2), .op (.mov (.c (.b true))), none⟩])
  (.ret)) (.skip)))
  (.seq (.reg false [⟨(some 11), .callF 26 [], none⟩,
    ⟨(some 3), .op (.mov (.t 11)), none⟩])
  (.seq (.reg false [⟨(some 12), .callF 27 [], none⟩,
    ⟨(some 4), .op (.mov (.t 12)), none⟩])
  (.seq (.seq (.reg false [⟨(some 13), .op (.mov (.t 4)), none⟩,
    ⟨(some 14), .op (.len false (.t 13)), none⟩,
    ⟨(some 15), .op (.mov (.t 3)), none⟩,
    ⟨(some 16), .op (.len false (.t 15)), none⟩,
    ⟨(some 17), .op (.bin .neq (.t 14) (.t 16)), none⟩,
    ⟨(some 18), .op (.mov (.t 17)), none⟩,
    ⟨(some 19), .op (.mov (.t 0)), (some (18, false))⟩,
    ⟨(some 20), .callF 28 [(.t 19)], (some (18, false))⟩,
    ⟨(some 21), .op (.mov (.t 0)), (some (18, false))⟩,
    ⟨(some 22), .callF 29 [(.t 21)], (some (18, false))⟩,
    ⟨(some 23), .op (.bin .neq (.t 20) (.t 22)), (some (18, false))⟩,
    ⟨(some 24), .op (.pick (.t 18) (.c (.b true)) (.t 23)), none⟩,
    ⟨(some 25), .op (.mov (.t 24)), none⟩,
    ⟨(some 26), .op (.mov (.t 0)), (some (25, false))⟩,
    ⟨(some 27), .callF 30 [(.t 26)], (some (25, false))⟩,
    ⟨(some 28), .op (.mov (.t 0)), (some (25, false))⟩,
    ⟨(some 29), .callF 31 [(.t 28)], (some (25, false))⟩,
    ⟨(some 30), .op (.len false (.t 29)), (some (25, false))⟩,
    ⟨(some 31), .op (.bin .gtr (.t 30) (.c (.i .i64 0))), (some (25, false))⟩,
    ⟨(some 32), .op (.eqB true (.t 27) (.t 31)), (some (25, false))⟩,
    ⟨(some 33), .op (.pick (.t 25) (.c (.b true)) (.t 32)), none⟩])
  (.cond (.t 33) (.seq (.reg false [⟨(some 2), .op (.mov (.c (.b false))), none⟩])
  (.ret)) (.skip)))
  (.seq (.seq (.reg false [⟨(some 5), .op (.mov (.c (.i .i64 0))), none⟩])
  (.blk 0 (.loop (.seq (.seq (.reg false [⟨(some 34), .op (.mov (.t 5)), none⟩,
    ⟨(some 35), .op (.mov (.t 3)), none⟩,
    ⟨(some 36), .op (.len false (.t 35)), none⟩,
    ⟨(some 37), .op (.bin .lss (.t 34) (.t 36)), none⟩])
  (.cond (.t 37) (.skip) (.exit 0)))
  (.seq (.blk 1 (.seq (.reg true [⟨(some 40), .op (.mov (.t 4)), none⟩,
    ⟨(some 41), .op (.mov (.t 5)), none⟩,
    ⟨(some 42), .op (.iAddrS 1 (.t 40) (.t 41)), none⟩,
    ⟨(some 43), .op (.load1 (.t 42)), none⟩,
    ⟨(some 44), .op (.mov (.t 3)), none⟩,
    ⟨(some 45), .op (.mov (.t 5)), none⟩,
    ⟨(some 46), .op (.iAddrS 2 (.t 44) (.t 45)), none⟩,
    ⟨(some 47), .op (.fAddr 0 (.t 46)), none⟩,
    ⟨(some 48), .op (.load1 (.t 47)), none⟩,
    ⟨(some 49), .op (.bin .neq (.t 43) (.t 48)), none⟩])
  (.cond (.t 49) (.seq (.reg false [⟨(some 2), .op (.mov (.c (.b false))), none⟩])
  (.ret)) (.skip))))
  (.reg false [⟨(some 38), .op (.mov (.t 5)), none⟩,
    ⟨(some 39), .op (.bin .add (.t 38) (.c (.i .i64 1))), none⟩,
    ⟨(some 5), .op (.mov (.t 39)), none⟩]))))))
  (.seq (.reg false [⟨(some 50), .op (.mov (.t 0)), none⟩,
    ⟨(some 51), .callF 32 [(.t 50)], none⟩,
    ⟨(some 6), .op (.mov (.t 51)), none⟩])
  (.seq (.seq (.reg false [⟨(some 52), .op (.mov (.t 6)), none⟩,
    ⟨(some 53), .op (.mov (.t 0)), none⟩,
    ⟨(some 54), .callF 31 [(.t 53)], none⟩,
    ⟨(some 55), .callF 24 [(.t 52), (.t 54)], none⟩,
    ⟨(some 56), .op (.un .not (.t 55)), none⟩])
  (.cond (.t 56) (.seq (.reg false [⟨(some 2), .op (.mov (.c (.b false))), none⟩])
  (.ret)) (.skip)))
  (.seq (.seq (.reg false [⟨(some 7), .op (.mov (.c (.i .i64 0))), none⟩])
  (.blk 2 (.loop (.seq (.seq (.reg false [⟨(some 57), .op (.mov (.t 7)), none⟩,
    ⟨(some 58), .op (.mov (.t 6)), none⟩,
    ⟨(some 59), .op (.len false (.t 58)), none⟩,
    ⟨(some 60), .op (.bin .lss (.t 57) (.t 59)), none⟩])
  (.cond (.t 60) (.skip) (.exit 2)))
  (.seq (.blk 3 (.reg false [⟨(some 63), .op (.mov (.t 6)), none⟩,
    ⟨(some 64), .op (.mov (.t 7)), none⟩,
    ⟨(some 65), .op (.iAddrS 1 (.t 63) (.t 64)), none⟩,
    ⟨none, .op (.store 1 (.t 65) (.c (.s [103, 111, 110, 101]))), none⟩]))
  (.reg false [⟨(some 61), .op (.mov (.t 7)), none⟩,
    ⟨(some 62), .op (.bin .add (.t 61) (.c (.i .i64 1))), none⟩,
    ⟨(some 7), .op (.mov (.t 62)), none⟩]))))))
  (.seq (.reg false [⟨(some 66), .op (.mov (.t 0)), none⟩,
    ⟨(some 67), .callF 32 [(.t 66)], none⟩,
    ⟨(some 68), .op (.mov (.t 0)), none⟩,
    ⟨(some 69), .callF 31 [(.t 68)], none⟩,
    ⟨(some 70), .callF 24 [(.t 67), (.t 69)], none⟩,
    ⟨(some 71), .op (.mov (.t 70)), none⟩,
    ⟨(some 72), .callF 25 [], (some (71, true))⟩,
    ⟨(some 73), .op (.pick (.t 71) (.t 72) (.c (.b false))), none⟩,
    ⟨(some 2), .op (.mov (.t 73)), none⟩])
  (.ret))))))))))⟩
-- vestibule/vestibulelaw11.GroupsCalls
def i9 : IFn := ⟨[.tmp 4],
  .seq (.reg false [⟨(some 4), .op (.mov (.c (.b false))), none⟩])
  (.seq (.seq (.reg false [⟨(some 17), .op (.mov (.t 0)), none⟩,
    ⟨(some 18), .op (.len true (.t 17)), none⟩,
    ⟨(some 19), .op (.bin .gtr (.t 18) (.c (.i .i64 200))), none⟩])
  (.cond (.t 19) (.seq (.reg false [⟨(some 20), .callF 25 [], none⟩,
    ⟨(some 4), .op (.mov (.t 20)), none⟩])
  (.ret)) (.skip)))
  (.seq (.reg false [⟨(some 21), .callF 27 [], none⟩,
    ⟨(some 5), .op (.mov (.t 21)), none⟩])
  (.seq (.seq (.reg false [⟨(some 22), .op (.mov (.t 5)), none⟩,
    ⟨(some 23), .op (.len false (.t 22)), none⟩,
    ⟨(some 24), .op (.bin .eql (.t 23) (.c (.i .i64 0))), none⟩])
  (.cond (.t 24) (.seq (.reg false [⟨(some 4), .op (.mov (.c (.b false))), none⟩])
  (.ret)) (.skip)))
  (.seq (.seq (.reg false [⟨(some 25), .op (.mov (.t 0)), none⟩,
    ⟨(some 26), .callF 30 [(.t 25)], none⟩,
    ⟨(some 27), .op (.un .not (.t 26)), none⟩])
  (.cond (.t 27) (.seq (.reg false [⟨(some 29), .op (.mov (.t 0)), none⟩,
    ⟨(some 30), .callF 22 [(.t 29)], none⟩,
    ⟨(some 28), .op (.mov (.t 30)), none⟩,
    ⟨(some 31), .op (.ext (.t 28) 0), none⟩,
    ⟨(some 32), .op (.ext (.t 28) 1), none⟩,
    ⟨(some 6), .op (.mov (.t 31)), none⟩,
    ⟨(some 7), .op (.mov (.t 32)), none⟩])
  (.seq (.seq (.reg false [⟨(some 33), .op (.mov (.t 7)), none⟩,
    ⟨(some 34), .op (.bin .neq (.t 33) (.c (.i .i64 110))), none⟩,
    ⟨(some 35), .op (.mov (.t 34)), none⟩,
    ⟨(some 36), .op (.mov (.t 0)), (some (35, false))⟩,
    ⟨(some 37), .callF 32 [(.t 36)], (some (35, false))⟩,
    ⟨(some 38), .op (.len false (.t 37)), (some (35, false))⟩,
    ⟨(some 39), .op (.bin .neq (.t 38) (.c (.i .i64 0))), (some (35, false))⟩,
    ⟨(some 40), .op (.pick (.t 35) (.c (.b true)) (.t 39)), none⟩,
    ⟨(some 41), .op (.mov (.t 40)), none⟩,
    ⟨(some 42), .op (.mov (.t 0)), (some (41, false))⟩,
    ⟨(some 43), .callF 28 [(.t 42)], (some (41, false))⟩,
    ⟨(some 44), .op (.bin .neq (.t 43) (.c (.i .i64 0))), (some (41, false))⟩,
    ⟨(some 45), .op (.pick (.t 41) (.c (.b true)) (.t 44)), none⟩])
  (.cond (.t 45) (.seq (.reg false [⟨(some 4), .op (.mov (.c (.b false))), none⟩])
  (.ret)) (.skip)))
  (.reg false [⟨(some 46), .op (.mov (.t 5)), none⟩,
    ⟨(some 47), .op (.mov (.t 1)), none⟩,
    ⟨(some 48), .op (.cvInt .u64 (.t 47)), none⟩,
    ⟨(some 49), .op (.mov (.t 5)), none⟩,
    ⟨(some 50), .op (.len false (.t 49)), none⟩,
    ⟨(some 51), .op (.cvInt .u64 (.t 50)), none⟩,
    ⟨(some 52), .op (.bin .rem (.t 48) (.t 51)), none⟩,
    ⟨(some 53), .op (.cvInt .i64 (.t 52)), none⟩,
    ⟨(some 54), .op (.iAddrS 1 (.t 46) (.t 53)), none⟩,
    ⟨(some 55), .op (.load1 (.t 54)), none⟩,
    ⟨(some 0), .op (.mov (.t 55)), none⟩]))) (.skip)))
  (.seq (.reg false [⟨(some 57), .op (.mov (.t 0)), none⟩,
    ⟨(some 58), .callF 22 [(.t 57)], none⟩,
    ⟨(some 56), .op (.mov (.t 58)), none⟩,
    ⟨(some 59), .op (.ext (.t 56) 0), none⟩,
    ⟨(some 60), .op (.ext (.t 56) 1), none⟩,
    ⟨(some 8), .op (.mov (.t 59)), none⟩,
    ⟨(some 9), .op (.mov (.t 60)), none⟩])
  (.seq (.seq (.reg false [⟨(some 61), .op (.mov (.t 9)), none⟩,
    ⟨(some 62), .op (.bin .neq (.t 61) (.c (.i .i64 0))), none⟩])
  (.cond (.t 62) (.seq (.reg false [⟨(some 63), .op (.mov (.t 9)), none⟩,
    ⟨(some 64), .op (.bin .eql (.t 63) (.c (.i .i64 111))), none⟩,
    ⟨(some 65), .op (.mov (.t 64)), none⟩,
    ⟨(some 66), .op (.mov (.t 0)), (some (65, true))⟩,
    ⟨(some 67), .callF 28 [(.t 66)], (some (65, true))⟩,
    ⟨(some 68), .op (.bin .gtr (.t 67) (.c (.i .i64 4))), (some (65, true))⟩,
    ⟨(some 69), .op (.pick (.t 65) (.t 68) (.c (.b false))), none⟩,
    ⟨(some 70), .op (.mov (.t 69)), none⟩,
    ⟨(some 71), .callF 25 [], (some (70, true))⟩,
    ⟨(some 72), .op (.pick (.t 70) (.t 71) (.c (.b false))), none⟩,
    ⟨(some 4), .op (.mov (.t 72)), none⟩])
  (.ret)) (.skip)))
  (.seq (.reg false [⟨(some 10), .op (.mov (.c (.nils))), none⟩])
  (.seq (.reg false [⟨(some 73), .op (.mov (.t 0)), none⟩,
    ⟨(some 74), .callF 32 [(.t 73)], none⟩,
    ⟨(some 11), .op (.mov (.t 74)), none⟩])
  (.seq (.seq (.reg false [⟨(some 12), .op (.mov (.c (.i .i64 0))), none⟩])
  (.blk 0 (.loop (.seq (.seq (.reg false [⟨(some 75), .op (.mov (.t 12)), none⟩,
    ⟨(some 76), .op (.mov (.t 11)), none⟩,
    ⟨(some 77), .op (.len false (.t 76)), none⟩,
    ⟨(some 78), .op (.bin .lss (.t 75) (.t 77)), none⟩])
  (.cond (.t 78) (.skip) (.exit 0)))
  (.seq (.blk 1 (.seq (.seq (.reg false [⟨(some 81), .op (.mov (.t 11)), none⟩,
    ⟨(some 82), .op (.mov (.t 12)), none⟩,
    ⟨(some 83), .op (.iAddrS 1 (.t 81) (.t 82)), none⟩,
    ⟨(some 84), .op (.load1 (.t 83)), none⟩,
    ⟨(some 85), .callF 30 [(.t 84)], none⟩,
    ⟨(some 86), .op (.un .not (.t 85)), none⟩])
  (.cond (.t 86) (.seq (.reg false [⟨(some 87), .op (.mov (.t 10)), none⟩,
    ⟨(some 88), .op (.mov (.t 11)), none⟩,
    ⟨(some 89), .op (.mov (.t 12)), none⟩,
    ⟨(some 90), .op (.iAddrS 1 (.t 88) (.t 89)), none⟩,
    ⟨(some 91), .op (.load1 (.t 90)), none⟩,
    ⟨(some 92), .op (.buildS 1 [.s []] [(0, 1, (.t 91))]), none⟩,
    ⟨(some 93), .op (.app 1 16 true (.t 87) (.t 92)), none⟩,
    ⟨(some 10), .op (.mov (.t 93)), none⟩])
  (.exit 1)) (.skip)))
  (.seq (.reg false [⟨(some 95), .op (.mov (.t 11)), none⟩,
    ⟨(some 96), .op (.mov (.t 12)), none⟩,
    ⟨(some 97), .op (.iAddrS 1 (.t 95) (.t 96)), none⟩,
    ⟨(some 98), .op (.load1 (.t 97)), none⟩,
    ⟨(some 99), .callF 22 [(.t 98)], none⟩,
    ⟨(some 94), .op (.mov (.t 99)), none⟩,
    ⟨(some 100), .op (.ext (.t 94) 0), none⟩,
    ⟨(some 101), .op (.ext (.t 94) 1), none⟩,
    ⟨(some 13), .op (.mov (.t 100)), none⟩,
    ⟨(some 14), .op (.mov (.t 101)), none⟩])
  (.seq (.seq (.reg false [⟨(some 102), .op (.mov (.t 14)), none⟩,
    ⟨(some 103), .op (.bin .neq (.t 102) (.c (.i .i64 0))), none⟩,
    ⟨(some 104), .op (.mov (.t 103)), none⟩,
    ⟨(some 105), .op (.mov (.t 11)), (some (104, false))⟩,
    ⟨(some 106), .op (.mov (.t 12)), (some (104, false))⟩,
    ⟨(some 107), .op (.iAddrS 1 (.t 105) (.t 106)), (some (104, false))⟩,
    ⟨(some 108), .op (.load1 (.t 107)), (some (104, false))⟩,
    ⟨(some 109), .callF 28 [(.t 108)], (some (104, false))⟩,
    ⟨(some 110), .op (.mov (.t 0)), (some (104, false))⟩,
    ⟨(some 111), .callF 28 [(.t 110)], (some (104, false))⟩,
    ⟨(some 112), .op (.bin .geq (.t 109) (.t 111)), (some (104, false))⟩,
    ⟨(some 113), .op (.pick (.t 104) (.c (.b true)) (.t 112)), none⟩])
  (.cond (.t 113) (.seq (.reg false [⟨(some 4), .op (.mov (.c (.b false))), none⟩])
  (.ret)) (.skip)))
  (.reg false [⟨(some 114), .op (.mov (.t 10)), none⟩,
    ⟨(some 115), .op (.mov (.t 13)), none⟩,
    ⟨(some 116), .op (.app 1 16 true (.t 114) (.t 115)), none⟩,
    ⟨(some 10), .op (.mov (.t 116)), none⟩])))))
  (.reg false [⟨(some 79), .op (.mov (.t 12)), none⟩,
    ⟨(some 80), .op (.bin .add (.t 79) (.c (.i .i64 1))), none⟩,
    ⟨(some 12), .op (.mov (.t 80)), none⟩]))))))
  (.seq (.seq (.reg false [⟨(some 15), .op (.mov (.c (.i .i64 0))), none⟩])
  (.blk 2 (.loop (.seq (.seq (.reg false [⟨(some 117), .op (.mov (.t 15)), none⟩,
    ⟨(some 118), .op (.mov (.t 10)), none⟩,
    ⟨(some 119), .op (.len false (.t 118)), none⟩,
    ⟨(some 120), .op (.bin .lss (.t 117) (.t 119)), none⟩])
  (.cond (.t 120) (.skip) (.exit 2)))
  (.seq (.blk 3 (.seq (.reg false [⟨(some 123), .op (.mov (.t 8)), none⟩,
    ⟨(some 124), .op (.mov (.t 10)), none⟩,
    ⟨(some 125), .op (.mov (.t 15)), none⟩,
    ⟨(some 126), .op (.iAddrS 1 (.t 124) (.t 125)), none⟩,
    ⟨(some 127), .op (.load1 (.t 126)), none⟩,
    ⟨(some 128), .callF 33 [(.t 123), (.t 127)], none⟩,
    ⟨(some 129), .op (.un .not (.t 128)), none⟩])
  (.cond (.t 129) (.seq (.reg false [⟨(some 4), .op (.mov (.c (.b false))), none⟩])
  (.ret)) (.skip))))
  (.reg false [⟨(some 121), .op (.mov (.t 15)), none⟩,
    ⟨(some 122), .op (.bin .add (.t 121) (.c (.i .i64 1))), none⟩,
    ⟨(some 15), .op (.mov (.t 122)), none⟩]))))))
  (.seq (.seq (.reg false [⟨(some 16), .op (.mov (.c (.i .i64 0))), none⟩])
  (.blk 4 (.loop (.seq (.seq (.reg false [⟨(some 130), .op (.mov (.t 16)), none⟩,
    ⟨(some 131), .op (.mov (.t 8)), none⟩,
    ⟨(some 132), .op (.len false (.t 131)), none⟩,
    ⟨(some 133), .op (.bin .lss (.t 130) (.t 132)), none⟩])
  (.cond (.t 133) (.skip) (.exit 4)))
  (.seq (.blk 5 (.seq (.reg true [⟨(some 136), .op (.mov (.t 8)), none⟩,
    ⟨(some 137), .op (.mov (.t 16)), none⟩,
    ⟨(some 138), .op (.iAddrS 1 (.t 136) (.t 137)), none⟩,
    ⟨(some 139), .op (.load1 (.t 138)), none⟩,
    ⟨(some 140), .callF 15 [(.t 139)], none⟩,
    ⟨(some 141), .op (.un .not (.t 140)), none⟩,
    ⟨(some 142), .op (.mov (.t 141)), none⟩,
    ⟨(some 143), .op (.mov (.t 10)), (some (142, false))⟩,
    ⟨(some 144), .op (.mov (.t 8)), (some (142, false))⟩,
    ⟨(some 145), .op (.mov (.t 16)), (some (142, false))⟩,
    ⟨(some 146), .op (.iAddrS 1 (.t 144) (.t 145)), (some (142, false))⟩,
    ⟨(some 147), .op (.load1 (.t 146)), (some (142, false))⟩,
    ⟨(some 148), .callF 33 [(.t 143), (.t 147)], (some (142, false))⟩,
    ⟨(some 149), .op (.un .not (.t 148)), (some (142, false))⟩,
    ⟨(some 150), .op (.pick (.t 142) (.c (.b true)) (.t 149)), none⟩,
    ⟨(some 151), .op (.mov (.t 150)), none⟩,
    ⟨(some 152), .op (.mov (.t 16)), (some (151, false))⟩,
    ⟨(some 153), .op (.bin .gtr (.t 152) (.c (.i .i64 0))), (some (151, false))⟩,
    ⟨(some 154), .op (.mov (.t 153)), (some (151, false))⟩,
    ⟨(some 155), .op (.mov (.t 8)), (some (154, true))⟩,
    ⟨(some 156), .op (.mov (.t 16)), (some (154, true))⟩,
    ⟨(some 157), .op (.bin .sub (.t 156) (.c (.i .i64 1))), (some (154, true))⟩,
    ⟨(some 158), .op (.iAddrS 1 (.t 155) (.t 157)), (some (154, true))⟩,
    ⟨(some 159), .op (.load1 (.t 158)), (some (154, true))⟩,
    ⟨(some 160), .op (.mov (.t 8)), (some (154, true))⟩,
    ⟨(some 161), .op (.mov (.t 16)), (some (154, true))⟩,
    ⟨(some 162), .op (.iAddrS 1 (.t 160) (.t 161)), (some (154, true))⟩,
    ⟨(some 163), .op (.load1 (.t 162)), (some (154, true))⟩,
    ⟨(some 164), .op (.bin .geq (.t 159) (.t 163)), (some (154, true))⟩,
    ⟨(some 165), .op (.pick (.t 154) (.t 164) (.c (.b false))), (some (151, false))⟩,
    ⟨(some 166), .op (.pick (.t 151) (.c (.b true)) (.t 165)), none⟩])
  (.cond (.t 166) (.seq (.reg false [⟨(some 4), .op (.mov (.c (.b false))), none⟩])
  (.ret)) (.skip))))
  (.reg false [⟨(some 134), .op (.mov (.t 16)), none⟩,
    ⟨(some 135), .op (.bin .add (.t 134) (.c (.i .i64 1))), none⟩,
    ⟨(some 16), .op (.mov (.t 135)), none⟩]))))))
  (.seq (.reg false [⟨(some 167), .op (.mov (.t 8)), none⟩,
    ⟨(some 168), .op (.len false (.t 167)), none⟩,
    ⟨(some 169), .op (.bin .gtr (.t 168) (.c (.i .i64 0))), none⟩,
    ⟨(some 170), .op (.mov (.t 169)), none⟩,
    ⟨(some 171), .callF 25 [], (some (170, true))⟩,
    ⟨(some 172), .op (.pick (.t 170) (.t 171) (.c (.b false))), none⟩,
    ⟨(some 4), .op (.mov (.t 172)), none⟩])
  (.ret)))))))))))))⟩
-- vestibule/vestibulelaw11.GroupsNames
def i10 : IFn := ⟨[.tmp 2],
  .seq (.reg false [⟨(some 2), .op (.mov (.c (.b false))), none⟩])
  (.seq (.reg false [⟨(some 5), .callF 27 [], none⟩,
    ⟨(some 3), .op (.mov (.t 5)), none⟩])
  (.seq (.seq (.reg false [⟨(some 6), .op (.mov (.t 3)), none⟩,
    ⟨(some 7), .op (.len false (.t 6)), none⟩,
    ⟨(some 8), .op (.bin .eql (.t 7) (.c (.i .i64 0))), none⟩])
  (.cond (.t 8) (.seq (.reg false [⟨(some 2), .op (.mov (.c (.b false))), none⟩])
  (.ret)) (.skip)))
  (.seq (.reg false [⟨(some 9), .op (.mov (.t 0)), none⟩,
    ⟨(some 10), .op (.cvInt .u64 (.t 9)), none⟩,
    ⟨(some 11), .op (.mov (.t 3)), none⟩,
    ⟨(some 12), .op (.len false (.t 11)), none⟩,
    ⟨(some 13), .op (.cvInt .u64 (.t 12)), none⟩,
    ⟨(some 14), .op (.bin .rem (.t 10) (.t 13)), none⟩,
    ⟨(some 15), .op (.cvInt .i64 (.t 14)), none⟩,
    ⟨(some 4), .op (.mov (.t 15)), none⟩])
  (.seq (.reg true [⟨(some 16), .op (.mov (.t 3)), none⟩,
    ⟨(some 17), .op (.mov (.t 4)), none⟩,
    ⟨(some 18), .op (.iAddrS 1 (.t 16) (.t 17)), none⟩,
    ⟨(some 19), .op (.load1 (.t 18)), none⟩,
    ⟨(some 20), .op (.bin .neq (.t 19) (.c (.s []))), none⟩,
    ⟨(some 21), .op (.mov (.t 20)), none⟩,
    ⟨(some 22), .op (.mov (.t 3)), (some (21, true))⟩,
    ⟨(some 23), .op (.mov (.t 4)), (some (21, true))⟩,
    ⟨(some 24), .op (.iAddrS 1 (.t 22) (.t 23)), (some (21, true))⟩,
    ⟨(some 25), .op (.load1 (.t 24)), (some (21, true))⟩,
    ⟨(some 26), .op (.idxS (.t 25) (.c (.i .i64 0))), (some (21, true))⟩,
    ⟨(some 27), .op (.bin .eql (.t 26) (.c (.i .u8 64))), (some (21, true))⟩,
    ⟨(some 28), .op (.pick (.t 21) (.t 27) (.c (.b false))), none⟩,
    ⟨(some 29), .op (.mov (.t 28)), none⟩,
    ⟨(some 30), .op (.mov (.t 3)), (some (29, true))⟩,
    ⟨(some 31), .op (.mov (.t 4)), (some (29, true))⟩,
    ⟨(some 32), .op (.iAddrS 1 (.t 30) (.t 31)), (some (29, true))⟩,
    ⟨(some 33), .op (.load1 (.t 32)), (some (29, true))⟩,
    ⟨(some 34), .callF 15 [(.t 33)], (some (29, true))⟩,
    ⟨(some 35), .op (.un .not (.t 34)), (some (29, true))⟩,
    ⟨(some 36), .op (.pick (.t 29) (.t 35) (.c (.b false))), none⟩,
    ⟨(some 37), .op (.mov (.t 36)), none⟩,
    ⟨(some 38), .op (.mov (.t 3)), (some (37, true))⟩,
    ⟨(some 39), .op (.mov (.t 4)), (some (37, true))⟩,
    ⟨(some 40), .op (.iAddrS 1 (.t 38) (.t 39)), (some (37, true))⟩,
    ⟨(some 41), .op (.load1 (.t 40)), (some (37, true))⟩,
    ⟨(some 42), .callF 30 [(.t 41)], (some (37, true))⟩,
    ⟨(some 43), .op (.pick (.t 37) (.t 42) (.c (.b false))), none⟩,
    ⟨(some 44), .op (.mov (.t 43)), none⟩,
    ⟨(some 45), .op (.mov (.t 3)), (some (44, true))⟩,
    ⟨(some 46), .op (.mov (.t 4)), (some (44, true))⟩,
    ⟨(some 47), .op (.iAddrS 1 (.t 45) (.t 46)), (some (44, true))⟩,
    ⟨(some 48), .op (.load1 (.t 47)), (some (44, true))⟩,
    ⟨(some 49), .callF 32 [(.t 48)], (some (44, true))⟩,
    ⟨(some 50), .op (.len false (.t 49)), (some (44, true))⟩,
    ⟨(some 51), .op (.bin .gtr (.t 50) (.c (.i .i64 0))), (some (44, true))⟩,
    ⟨(some 52), .op (.pick (.t 44) (.t 51) (.c (.b false))), none⟩,
    ⟨(some 53), .op (.mov (.t 52)), none⟩,
    ⟨(some 54), .op (.mov (.t 3)), (some (53, true))⟩,
    ⟨(some 55), .op (.mov (.t 4)), (some (53, true))⟩,
    ⟨(some 56), .op (.iAddrS 1 (.t 54) (.t 55)), (some (53, true))⟩,
    ⟨(some 57), .op (.load1 (.t 56)), (some (53, true))⟩,
    ⟨(some 58), .callF 28 [(.t 57)], (some (53, true))⟩,
    ⟨(some 59), .op (.bin .gtr (.t 58) (.c (.i .i64 0))), (some (53, true))⟩,
    ⟨(some 60), .op (.pick (.t 53) (.t 59) (.c (.b false))), none⟩,
    ⟨(some 61), .op (.mov (.t 60)), none⟩,
    ⟨(some 62), .op (.mov (.t 4)), (some (61, true))⟩,
    ⟨(some 63), .op (.bin .eql (.t 62) (.c (.i .i64 0))), (some (61, true))⟩,
    ⟨(some 64), .op (.mov (.t 63)), (some (61, true))⟩,
    ⟨(some 65), .op (.mov (.t 3)), (some (64, false))⟩,
    ⟨(some 66), .op (.mov (.t 4)), (some (64, false))⟩,
    ⟨(some 67), .op (.bin .sub (.t 66) (.c (.i .i64 1))), (some (64, false))⟩,
    ⟨(some 68), .op (.iAddrS 1 (.t 65) (.t 67)), (some (64, false))⟩,
    ⟨(some 69), .op (.load1 (.t 68)), (some (64, false))⟩,
    ⟨(some 70), .op (.mov (.t 3)), (some (64, false))⟩,
    ⟨(some 71), .op (.mov (.t 4)), (some (64, false))⟩,
    ⟨(some 72), .op (.iAddrS 1 (.t 70) (.t 71)), (some (64, false))⟩,
    ⟨(some 73), .op (.load1 (.t 72)), (some (64, false))⟩,
    ⟨(some 74), .op (.bin .lss (.t 69) (.t 73)), (some (64, false))⟩,
    ⟨(some 75), .op (.pick (.t 64) (.c (.b true)) (.t 74)), (some (61, true))⟩,
    ⟨(some 76), .op (.pick (.t 61) (.t 75) (.c (.b false))), none⟩,
    ⟨(some 77), .op (.mov (.t 76)), none⟩,
    ⟨(some 78), .callF 25 [], (some (77, true))⟩,
    ⟨(some 79), .op (.pick (.t 77) (.t 78) (.c (.b false))), none⟩,
    ⟨(some 2), .op (.mov (.t 79)), none⟩])
  (.ret)))))⟩
-- vestibule/calls.Number
def i11 : IFn := ⟨[.tmp 4, .tmp 5],
  .seq (.reg false [⟨(some 3), .op (.box (.t 1)), none⟩,
    ⟨(some 4), .op (.mov (.c (.i .u32 0))), none⟩,
    ⟨(some 5), .op (.mov (.c (.i .i64 0))), none⟩])
  (.seq (.reg false [⟨(some 11), .op (.mkF 35 [] [(.t 3)]), none⟩,
    ⟨(some 12), .callF 34 [(.t 11)], none⟩,
    ⟨(some 10), .op (.mov (.t 12)), none⟩,
    ⟨(some 13), .op (.ext (.t 10) 0), none⟩,
    ⟨(some 14), .op (.ext (.t 10) 1), none⟩,
    ⟨(some 6), .op (.alloc [.s [], .i .i64 0, .i .i64 0, .i .i64 0, .i .i64 0, .i .i64 0, .i .i64 0]), none⟩,
    ⟨none, .op (.store 7 (.t 6) (.t 13)), none⟩,
    ⟨(some 7), .op (.mov (.t 14)), none⟩])
  (.seq (.reg false [⟨(some 16), .op (.loadN 7 (.t 6)), none⟩,
    ⟨(some 17), .op (.mov (.t 0)), none⟩,
    ⟨(some 18), .callF 36 [(.t 16), (.t 17)], none⟩,
    ⟨(some 15), .op (.mov (.t 18)), none⟩,
    ⟨(some 19), .op (.ext (.t 15) 0), none⟩,
    ⟨(some 20), .op (.ext (.t 15) 1), none⟩,
    ⟨(some 8), .op (.mov (.t 19)), none⟩,
    ⟨(some 9), .op (.mov (.t 20)), none⟩])
  (.seq (.seq (.reg false [⟨(some 21), .op (.mov (.t 7)), none⟩,
    ⟨(some 22), .op (.un .not (.t 21)), none⟩,
    ⟨(some 23), .op (.mov (.t 22)), none⟩,
    ⟨(some 24), .op (.mov (.t 9)), (some (23, false))⟩,
    ⟨(some 25), .op (.un .not (.t 24)), (some (23, false))⟩,
    ⟨(some 26), .op (.pick (.t 23) (.c (.b true)) (.t 25)), none⟩])
  (.cond (.t 26) (.seq (.reg false [⟨(some 4), .op (.mov (.c (.i .u32 0))), none⟩,
    ⟨(some 5), .op (.mov (.c (.i .i64 90))), none⟩])
  (.ret)) (.skip)))
  (.seq (.reg false [⟨(some 27), .op (.mov (.t 8)), none⟩,
    ⟨(some 4), .op (.mov (.t 27)), none⟩,
    ⟨(some 5), .op (.mov (.c (.i .i64 0))), none⟩])
  (.ret)))))⟩
-- vestibule/vestibuleref09.Number
def i12 : IFn := ⟨[.tmp 4, .tmp 5],
  .seq (.reg false [⟨(some 4), .op (.mov (.c (.i .u32 0))), none⟩,
    ⟨(some 5), .op (.mov (.c (.i .i64 0))), none⟩])
  (.seq (.reg false [⟨(some 8), .callF 37 [], none⟩,
    ⟨(some 6), .op (.mov (.t 8)), none⟩])
  (.seq (.seq (.reg false [⟨(some 7), .op (.mov (.c (.i .i64 0))), none⟩])
  (.blk 0 (.loop (.seq (.seq (.reg false [⟨(some 9), .op (.mov (.t 7)), none⟩,
    ⟨(some 10), .op (.mov (.t 6)), none⟩,
    ⟨(some 11), .op (.len false (.t 10)), none⟩,
    ⟨(some 12), .op (.bin .lss (.t 9) (.t 11)), none⟩])
  (.cond (.t 12) (.skip) (.exit 0)))
  (.seq (.blk 1 (.seq (.reg false [⟨(some 15), .op (.mov (.t 6)), none⟩,
    ⟨(some 16), .op (.mov (.t 7)), none⟩,
    ⟨(some 17), .op (.iAddrS 2 (.t 15) (.t 16)), none⟩,
    ⟨(some 18), .op (.fAddr 0 (.t 17)), none⟩,
    ⟨(some 19), .op (.load1 (.t 18)), none⟩,
    ⟨(some 20), .op (.mov (.t 1)), none⟩,
    ⟨(some 21), .op (.bin .eql (.t 19) (.t 20)), none⟩,
    ⟨(some 22), .op (.mov (.t 21)), none⟩,
    ⟨(some 23), .op (.mov (.t 0)), (some (22, true))⟩,
    ⟨(some 24), .op (.bin .geq (.t 23) (.c (.i .i64 0))), (some (22, true))⟩,
    ⟨(some 25), .op (.pick (.t 22) (.t 24) (.c (.b false))), none⟩,
    ⟨(some 26), .op (.mov (.t 25)), none⟩,
    ⟨(some 27), .op (.mov (.t 0)), (some (26, true))⟩,
    ⟨(some 28), .op (.bin .lss (.t 27) (.c (.i .i64 6))), (some (26, true))⟩,
    ⟨(some 29), .op (.pick (.t 26) (.t 28) (.c (.b false))), none⟩,
    ⟨(some 30), .op (.mov (.t 29)), none⟩,
    ⟨(some 31), .op (.mov (.t 6)), (some (30, true))⟩,
    ⟨(some 32), .op (.mov (.t 7)), (some (30, true))⟩,
    ⟨(some 33), .op (.iAddrS 2 (.t 31) (.t 32)), (some (30, true))⟩,
    ⟨(some 34), .op (.fAddr 1 (.t 33)), (some (30, true))⟩,
    ⟨(some 35), .op (.load1 (.t 34)), (some (30, true))⟩,
    ⟨(some 36), .op (.mov (.t 0)), (some (30, true))⟩,
    ⟨(some 37), .op (.iAddrS 1 (.t 35) (.t 36)), (some (30, true))⟩,
    ⟨(some 38), .op (.load1 (.t 37)), (some (30, true))⟩,
    ⟨(some 39), .op (.bin .geq (.t 38) (.c (.i .i64 0))), (some (30, true))⟩,
    ⟨(some 40), .op (.pick (.t 30) (.t 39) (.c (.b false))), none⟩])
  (.cond (.t 40) (.seq (.reg false [⟨(some 41), .op (.mov (.t 6)), none⟩,
    ⟨(some 42), .op (.mov (.t 7)), none⟩,
    ⟨(some 43), .op (.iAddrS 2 (.t 41) (.t 42)), none⟩,
    ⟨(some 44), .op (.fAddr 1 (.t 43)), none⟩,
    ⟨(some 45), .op (.load1 (.t 44)), none⟩,
    ⟨(some 46), .op (.mov (.t 0)), none⟩,
    ⟨(some 47), .op (.iAddrS 1 (.t 45) (.t 46)), none⟩,
    ⟨(some 48), .op (.load1 (.t 47)), none⟩,
    ⟨(some 49), .op (.cvInt .u32 (.t 48)), none⟩,
    ⟨(some 4), .op (.mov (.t 49)), none⟩,
    ⟨(some 5), .op (.mov (.c (.i .i64 0))), none⟩])
  (.ret)) (.skip))))
  (.reg false [⟨(some 13), .op (.mov (.t 7)), none⟩,
    ⟨(some 14), .op (.bin .add (.t 13) (.c (.i .i64 1))), none⟩,
    ⟨(some 7), .op (.mov (.t 14)), none⟩]))))))
  (.seq (.reg false [⟨(some 4), .op (.mov (.c (.i .u32 0))), none⟩,
    ⟨(some 5), .op (.mov (.c (.i .i64 90))), none⟩])
  (.ret))))⟩
-- vestibule/calls.Names
def i13 : IFn := ⟨[.tmp 0],
  .seq (.reg false [⟨(some 0), .op (.mov (.c (.nils))), none⟩])
  (.seq (.reg false [⟨(some 1), .op (.mov (.c (.nils))), none⟩])
  (.seq (.seq (.reg false [⟨(some 4), .callF 38 [], none⟩,
    ⟨(some 5), .op (.mov (.c (.i .i64 0))), none⟩])
  (.blk 0 (.loop (.seq (.reg false [⟨(some 6), .op (.bin .lss (.t 5) (.c (.i .i64 40))), none⟩])
  (.seq (.cond (.t 6) (.skip) (.exit 0))
  (.seq (.blk 1 (.seq (.reg false [⟨(some 7), .op (.idxA 40 7 true (.t 4) (.t 5)), none⟩,
    ⟨(some 3), .op (.alloc [.s [], .i .i64 0, .i .i64 0, .i .i64 0, .i .i64 0, .i .i64 0, .i .i64 0]), none⟩,
    ⟨none, .op (.store 7 (.t 3) (.t 7)), none⟩])
  (.reg false [⟨(some 8), .op (.mov (.t 1)), none⟩,
    ⟨(some 9), .op (.fAddr 0 (.t 3)), none⟩,
    ⟨(some 10), .op (.load1 (.t 9)), none⟩,
    ⟨(some 11), .op (.buildS 1 [.s []] [(0, 1, (.t 10))]), none⟩,
    ⟨(some 12), .op (.app 1 16 true (.t 8) (.t 11)), none⟩,
    ⟨(some 1), .op (.mov (.t 12)), none⟩])))
  (.reg false [⟨(some 13), .op (.bin .add (.t 5) (.c (.i .i64 1))), none⟩,
    ⟨(some 5), .op (.mov (.t 13)), none⟩])))))))
  (.seq (.reg false [⟨(some 14), .op (.mov (.t 1)), none⟩,
    ⟨(some 0), .op (.mov (.t 14)), none⟩])
  (.ret))))⟩
-- vestibule/vestibuleref09.Names
def i14 : IFn := ⟨[.tmp 0],
  .seq (.reg false [⟨(some 0), .op (.mov (.c (.nils))), none⟩])
  (.seq (.reg false [⟨(some 1), .op (.mov (.c (.nils))), none⟩])
  (.seq (.reg false [⟨(some 4), .callF 37 [], none⟩,
    ⟨(some 2), .op (.mov (.t 4)), none⟩])
  (.seq (.seq (.reg false [⟨(some 3), .op (.mov (.c (.i .i64 0))), none⟩])
  (.blk 0 (.loop (.seq (.seq (.reg false [⟨(some 5), .op (.mov (.t 3)), none⟩,
    ⟨(some 6), .op (.mov (.t 2)), none⟩,
    ⟨(some 7), .op (.len false (.t 6)), none⟩,
    ⟨(some 8), .op (.bin .lss (.t 5) (.t 7)), none⟩])
  (.cond (.t 8) (.skip) (.exit 0)))
  (.seq (.blk 1 (.reg false [⟨(some 11), .op (.mov (.t 1)), none⟩,
    ⟨(some 12), .op (.mov (.t 2)), none⟩,
    ⟨(some 13), .op (.mov (.t 3)), none⟩,
    ⟨(some 14), .op (.iAddrS 2 (.t 12) (.t 13)), none⟩,
    ⟨(some 15), .op (.fAddr 0 (.t 14)), none⟩,
    ⟨(some 16), .op (.load1 (.t 15)), none⟩,
    ⟨(some 17), .op (.buildS 1 [.s []] [(0, 1, (.t 16))]), none⟩,
    ⟨(some 18), .op (.app 1 16 true (.t 11) (.t 17)), none⟩,
    ⟨(some 1), .op (.mov (.t 18)), none⟩]))
  (.reg false [⟨(some 9), .op (.mov (.t 3)), none⟩,
    ⟨(some 10), .op (.bin .add (.t 9) (.c (.i .i64 1))), none⟩,
    ⟨(some 3), .op (.mov (.t 10)), none⟩]))))))
  (.seq (.reg false [⟨(some 19), .op (.mov (.t 1)), none⟩,
    ⟨(some 0), .op (.mov (.t 19)), none⟩])
  (.ret)))))⟩
-- vestibule/calls.Known
def i15 : IFn := ⟨[.tmp 2],
  .seq (.reg false [⟨(some 1), .op (.box (.t 0)), none⟩,
    ⟨(some 2), .op (.mov (.c (.b false))), none⟩])
  (.seq (.reg false [⟨(some 6), .op (.mkF 39 [] [(.t 1)]), none⟩,
    ⟨(some 7), .callF 34 [(.t 6)], none⟩,
    ⟨(some 5), .op (.mov (.t 7)), none⟩,
    ⟨(some 8), .op (.ext (.t 5) 0), none⟩,
    ⟨(some 9), .op (.ext (.t 5) 1), none⟩,
    ⟨(some 3), .op (.alloc [.s [], .i .i64 0, .i .i64 0, .i .i64 0, .i .i64 0, .i .i64 0, .i .i64 0]), none⟩,
    ⟨none, .op (.store 7 (.t 3) (.t 8)), none⟩,
    ⟨(some 4), .op (.mov (.t 9)), none⟩])
  (.seq (.reg false [⟨(some 10), .op (.mov (.t 4)), none⟩,
    ⟨(some 2), .op (.mov (.t 10)), none⟩])
  (.ret)))⟩
-- vestibule/vestibuleref09.Known
def i16 : IFn := ⟨[.tmp 2],
  .seq (.reg false [⟨(some 2), .op (.mov (.c (.b false))), none⟩])
  (.seq (.reg false [⟨(some 5), .callF 37 [], none⟩,
    ⟨(some 3), .op (.mov (.t 5)), none⟩])
  (.seq (.seq (.reg false [⟨(some 4), .op (.mov (.c (.i .i64 0))), none⟩])
  (.blk 0 (.loop (.seq (.seq (.reg false [⟨(some 6), .op (.mov (.t 4)), none⟩,
    ⟨(some 7), .op (.mov (.t 3)), none⟩,
    ⟨(some 8), .op (.len false (.t 7)), none⟩,
    ⟨(some 9), .op (.bin .lss (.t 6) (.t 8)), none⟩])
  (.cond (.t 9) (.skip) (.exit 0)))
  (.seq (.blk 1 (.seq (.reg false [⟨(some 12), .op (.mov (.t 3)), none⟩,
    ⟨(some 13), .op (.mov (.t 4)), none⟩,
    ⟨(some 14), .op (.iAddrS 2 (.t 12) (.t 13)), none⟩,
    ⟨(some 15), .op (.fAddr 0 (.t 14)), none⟩,
    ⟨(some 16), .op (.load1 (.t 15)), none⟩,
    ⟨(some 17), .op (.mov (.t 0)), none⟩,
    ⟨(some 18), .op (.bin .eql (.t 16) (.t 17)), none⟩])
  (.cond (.t 18) (.seq (.reg false [⟨(some 2), .op (.mov (.c (.b true))), none⟩])
  (.ret)) (.skip))))
  (.reg false [⟨(some 10), .op (.mov (.t 4)), none⟩,
    ⟨(some 11), .op (.bin .add (.t 10) (.c (.i .i64 1))), none⟩,
    ⟨(some 4), .op (.mov (.t 11)), none⟩]))))))
  (.seq (.reg false [⟨(some 2), .op (.mov (.c (.b false))), none⟩])
  (.ret))))⟩
-- vestibule/calls.Name
def i17 : IFn := ⟨[.tmp 4],
  .seq (.reg false [⟨(some 2), .op (.box (.t 0)), none⟩,
    ⟨(some 3), .op (.box (.t 1)), none⟩,
    ⟨(some 4), .op (.mov (.c (.s []))), none⟩])
  (.seq (.reg false [⟨(some 8), .op (.mkF 40 [] [(.t 2), (.t 3)]), none⟩,
    ⟨(some 9), .callF 34 [(.t 8)], none⟩,
    ⟨(some 7), .op (.mov (.t 9)), none⟩,
    ⟨(some 10), .op (.ext (.t 7) 0), none⟩,
    ⟨(some 11), .op (.ext (.t 7) 1), none⟩,
    ⟨(some 5), .op (.alloc [.s [], .i .i64 0, .i .i64 0, .i .i64 0, .i .i64 0, .i .i64 0, .i .i64 0]), none⟩,
    ⟨none, .op (.store 7 (.t 5) (.t 10)), none⟩,
    ⟨(some 6), .op (.mov (.t 11)), none⟩])
  (.seq (.reg false [⟨(some 12), .op (.fAddr 0 (.t 5)), none⟩,
    ⟨(some 13), .op (.load1 (.t 12)), none⟩,
    ⟨(some 4), .op (.mov (.t 13)), none⟩])
  (.ret)))⟩
-- vestibule/vestibuleref09.Name
def i18 : IFn := ⟨[.tmp 4],
  .seq (.reg false [⟨(some 4), .op (.mov (.c (.s []))), none⟩])
  (.seq (.reg false [⟨(some 9), .callF 37 [], none⟩,
    ⟨(some 5), .op (.mov (.t 9)), none⟩])
  (.seq (.seq (.reg false [⟨(some 6), .op (.mov (.c (.i .i64 0))), none⟩])
  (.blk 0 (.loop (.seq (.seq (.reg false [⟨(some 10), .op (.mov (.t 6)), none⟩,
    ⟨(some 11), .op (.mov (.t 5)), none⟩,
    ⟨(some 12), .op (.len false (.t 11)), none⟩,
    ⟨(some 13), .op (.bin .lss (.t 10) (.t 12)), none⟩])
  (.cond (.t 13) (.skip) (.exit 0)))
  (.seq (.blk 1 (.seq (.reg false [⟨(some 17), .op (.mov (.t 0)), none⟩,
    ⟨(some 18), .op (.mov (.t 5)), none⟩,
    ⟨(some 19), .op (.mov (.t 6)), none⟩,
    ⟨(some 20), .op (.iAddrS 2 (.t 18) (.t 19)), none⟩,
    ⟨(some 21), .op (.fAddr 0 (.t 20)), none⟩,
    ⟨(some 22), .op (.load1 (.t 21)), none⟩,
    ⟨(some 23), .callF 12 [(.t 17), (.t 22)], none⟩,
    ⟨(some 16), .op (.mov (.t 23)), none⟩,
    ⟨(some 24), .op (.ext (.t 16) 0), none⟩,
    ⟨(some 25), .op (.ext (.t 16) 1), none⟩,
    ⟨(some 7), .op (.mov (.t 24)), none⟩,
    ⟨(some 8), .op (.mov (.t 25)), none⟩])
  (.seq (.reg false [⟨(some 26), .op (.mov (.t 8)), none⟩,
    ⟨(some 27), .op (.bin .eql (.t 26) (.c (.i .i64 0))), none⟩,
    ⟨(some 28), .op (.mov (.t 27)), none⟩,
    ⟨(some 29), .op (.mov (.t 7)), (some (28, true))⟩,
    ⟨(some 30), .op (.mov (.t 1)), (some (28, true))⟩,
    ⟨(some 31), .op (.bin .eql (.t 29) (.t 30)), (some (28, true))⟩,
    ⟨(some 32), .op (.pick (.t 28) (.t 31) (.c (.b false))), none⟩])
  (.cond (.t 32) (.seq (.reg false [⟨(some 33), .op (.mov (.t 5)), none⟩,
    ⟨(some 34), .op (.mov (.t 6)), none⟩,
    ⟨(some 35), .op (.iAddrS 2 (.t 33) (.t 34)), none⟩,
    ⟨(some 36), .op (.fAddr 0 (.t 35)), none⟩,
    ⟨(some 37), .op (.load1 (.t 36)), none⟩,
    ⟨(some 4), .op (.mov (.t 37)), none⟩])
  (.ret)) (.skip)))))
  (.reg false [⟨(some 14), .op (.mov (.t 6)), none⟩,
    ⟨(some 15), .op (.bin .add (.t 14) (.c (.i .i64 1))), none⟩,
    ⟨(some 6), .op (.mov (.t 15)), none⟩]))))))
  (.seq (.reg false [⟨(some 4), .op (.mov (.c (.s []))), none⟩])
  (.ret))))⟩
-- vestibule/vestibulelaw09.awake
def i19 : IFn := ⟨[.tmp 0],
  .seq (.reg false [⟨(some 0), .op (.mov (.c (.b false))), none⟩])
  (.seq (.reg false [⟨(some 10), .callF 11 [(.c (.i .i64 0)), (.c (.s [114, 101, 97, 100]))], none⟩,
    ⟨(some 9), .op (.mov (.t 10)), none⟩,
    ⟨(some 11), .op (.ext (.t 9) 0), none⟩,
    ⟨(some 12), .op (.ext (.t 9) 1), none⟩,
    ⟨(some 1), .op (.mov (.t 11)), none⟩,
    ⟨(some 2), .op (.mov (.t 12)), none⟩])
  (.seq (.reg false [⟨(some 14), .callF 11 [(.c (.i .i64 2)), (.c (.s [114, 101, 97, 100]))], none⟩,
    ⟨(some 13), .op (.mov (.t 14)), none⟩,
    ⟨(some 15), .op (.ext (.t 13) 0), none⟩,
    ⟨(some 16), .op (.ext (.t 13) 1), none⟩,
    ⟨(some 3), .op (.mov (.t 15)), none⟩,
    ⟨(some 4), .op (.mov (.t 16)), none⟩])
  (.seq (.reg false [⟨(some 18), .callF 11 [(.c (.i .i64 2)), (.c (.s [115, 104, 109, 97, 116]))], none⟩,
    ⟨(some 17), .op (.mov (.t 18)), none⟩,
    ⟨(some 19), .op (.ext (.t 17) 0), none⟩,
    ⟨(some 20), .op (.ext (.t 17) 1), none⟩,
    ⟨(some 5), .op (.mov (.t 19)), none⟩,
    ⟨(some 6), .op (.mov (.t 20)), none⟩])
  (.seq (.reg false [⟨(some 22), .callF 11 [(.c (.i .i64 3)), (.c (.s [109, 109, 97, 112]))], none⟩,
    ⟨(some 21), .op (.mov (.t 22)), none⟩,
    ⟨(some 23), .op (.ext (.t 21) 0), none⟩,
    ⟨(some 24), .op (.ext (.t 21) 1), none⟩,
    ⟨(some 7), .op (.mov (.t 23)), none⟩,
    ⟨(some 8), .op (.mov (.t 24)), none⟩])
  (.seq (.reg false [⟨(some 25), .op (.mov (.t 1)), none⟩,
    ⟨(some 26), .op (.bin .eql (.t 25) (.c (.i .u32 0))), none⟩,
    ⟨(some 27), .op (.mov (.t 26)), none⟩,
    ⟨(some 28), .op (.mov (.t 2)), (some (27, true))⟩,
    ⟨(some 29), .op (.bin .eql (.t 28) (.c (.i .i64 0))), (some (27, true))⟩,
    ⟨(some 30), .op (.pick (.t 27) (.t 29) (.c (.b false))), none⟩,
    ⟨(some 31), .op (.mov (.t 30)), none⟩,
    ⟨(some 32), .op (.mov (.t 3)), (some (31, true))⟩,
    ⟨(some 33), .op (.bin .eql (.t 32) (.c (.i .u32 1073741824))), (some (31, true))⟩,
    ⟨(some 34), .op (.pick (.t 31) (.t 33) (.c (.b false))), none⟩,
    ⟨(some 35), .op (.mov (.t 34)), none⟩,
    ⟨(some 36), .op (.mov (.t 4)), (some (35, true))⟩,
    ⟨(some 37), .op (.bin .eql (.t 36) (.c (.i .i64 0))), (some (35, true))⟩,
    ⟨(some 38), .op (.pick (.t 35) (.t 37) (.c (.b false))), none⟩,
    ⟨(some 39), .op (.mov (.t 38)), none⟩,
    ⟨(some 40), .op (.mov (.t 6)), (some (39, true))⟩,
    ⟨(some 41), .op (.bin .eql (.t 40) (.c (.i .i64 90))), (some (39, true))⟩,
    ⟨(some 42), .op (.pick (.t 39) (.t 41) (.c (.b false))), none⟩,
    ⟨(some 43), .op (.mov (.t 42)), none⟩,
    ⟨(some 44), .op (.mov (.t 8)), (some (43, true))⟩,
    ⟨(some 45), .op (.bin .eql (.t 44) (.c (.i .i64 90))), (some (43, true))⟩,
    ⟨(some 46), .op (.pick (.t 43) (.t 45) (.c (.b false))), none⟩,
    ⟨(some 47), .op (.mov (.t 46)), none⟩,
    ⟨(some 48), .callF 17 [(.c (.i .i64 5)), (.c (.i .u32 57))], (some (47, true))⟩,
    ⟨(some 49), .op (.bin .eql (.t 48) (.c (.s [99, 108, 111, 115, 101]))), (some (47, true))⟩,
    ⟨(some 50), .op (.pick (.t 47) (.t 49) (.c (.b false))), none⟩,
    ⟨(some 51), .op (.mov (.t 50)), none⟩,
    ⟨(some 52), .callF 17 [(.c (.i .i64 0)), (.c (.i .u32 57))], (some (51, true))⟩,
    ⟨(some 53), .op (.bin .eql (.t 52) (.c (.s [102, 111, 114, 107]))), (some (51, true))⟩,
    ⟨(some 54), .op (.pick (.t 51) (.t 53) (.c (.b false))), none⟩,
    ⟨(some 55), .op (.mov (.t 54)), none⟩,
    ⟨(some 56), .callF 17 [(.c (.i .i64 2)), (.c (.i .u32 57))], (some (55, true))⟩,
    ⟨(some 57), .op (.bin .eql (.t 56) (.c (.s []))), (some (55, true))⟩,
    ⟨(some 58), .op (.pick (.t 55) (.t 57) (.c (.b false))), none⟩,
    ⟨(some 59), .op (.mov (.t 58)), none⟩,
    ⟨(some 60), .callF 15 [(.c (.s [119, 114, 105, 116, 101]))], (some (59, true))⟩,
    ⟨(some 61), .op (.pick (.t 59) (.t 60) (.c (.b false))), none⟩,
    ⟨(some 62), .op (.mov (.t 61)), none⟩,
    ⟨(some 63), .callF 15 [(.c (.s [87, 114, 105, 116, 101]))], (some (62, true))⟩,
    ⟨(some 64), .op (.un .not (.t 63)), (some (62, true))⟩,
    ⟨(some 65), .op (.pick (.t 62) (.t 64) (.c (.b false))), none⟩,
    ⟨(some 0), .op (.mov (.t 65)), none⟩])
  (.ret))))))⟩
-- vestibule/calls.All
def i20 : IFn := ⟨[.tmp 2],
  .seq (.reg false [⟨(some 2), .op (.mov (.c (.nils))), none⟩])
  (.seq (.reg false [⟨(some 3), .op (.mov (.c (.nils))), none⟩])
  (.seq (.seq (.reg false [⟨(some 8), .callF 38 [], none⟩,
    ⟨(some 9), .op (.mov (.c (.i .i64 0))), none⟩])
  (.blk 0 (.loop (.seq (.reg false [⟨(some 10), .op (.bin .lss (.t 9) (.c (.i .i64 40))), none⟩])
  (.seq (.cond (.t 10) (.skip) (.exit 0))
  (.seq (.blk 1 (.seq (.reg false [⟨(some 11), .op (.idxA 40 7 true (.t 8) (.t 9)), none⟩,
    ⟨(some 5), .op (.alloc [.s [], .i .i64 0, .i .i64 0, .i .i64 0, .i .i64 0, .i .i64 0, .i .i64 0]), none⟩,
    ⟨none, .op (.store 7 (.t 5) (.t 11)), none⟩])
  (.seq (.reg false [⟨(some 13), .op (.loadN 7 (.t 5)), none⟩,
    ⟨(some 14), .op (.mov (.t 0)), none⟩,
    ⟨(some 15), .callF 36 [(.t 13), (.t 14)], none⟩,
    ⟨(some 12), .op (.mov (.t 15)), none⟩,
    ⟨(some 16), .op (.ext (.t 12) 0), none⟩,
    ⟨(some 17), .op (.ext (.t 12) 1), none⟩,
    ⟨(some 6), .op (.mov (.t 16)), none⟩,
    ⟨(some 7), .op (.mov (.t 17)), none⟩])
  (.seq (.reg false [⟨(some 18), .op (.mov (.t 7)), none⟩])
  (.cond (.t 18) (.reg false [⟨(some 19), .op (.mov (.t 3)), none⟩,
    ⟨(some 20), .op (.fAddr 0 (.t 5)), none⟩,
    ⟨(some 21), .op (.load1 (.t 20)), none⟩,
    ⟨(some 22), .op (.mov (.t 6)), none⟩,
    ⟨(some 23), .op (.build [.s [], .i .u32 0] [(0, 1, (.t 21)), (1, 1, (.t 22))]), none⟩,
    ⟨(some 24), .op (.buildS 1 [.s [], .i .u32 0] [(0, 2, (.t 23))]), none⟩,
    ⟨(some 25), .op (.app 2 24 true (.t 19) (.t 24)), none⟩,
    ⟨(some 3), .op (.mov (.t 25)), none⟩]) (.skip))))))
  (.reg false [⟨(some 26), .op (.bin .add (.t 9) (.c (.i .i64 1))), none⟩,
    ⟨(some 9), .op (.mov (.t 26)), none⟩])))))))
  (.seq (.reg false [⟨(some 27), .op (.mov (.t 3)), none⟩,
    ⟨(some 28), .callF 41 [(.t 27), (.c (.fn 42 [] []))], none⟩])
  (.seq (.reg false [⟨(some 29), .op (.mov (.t 3)), none⟩,
    ⟨(some 2), .op (.mov (.t 29)), none⟩])
  (.ret)))))⟩
-- vestibule/vestibuleref09.All
def i21 : IFn := ⟨[.tmp 2],
  .seq (.reg false [⟨(some 2), .op (.mov (.c (.nils))), none⟩])
  (.seq (.reg false [⟨(some 3), .op (.mov (.c (.nils))), none⟩])
  (.seq (.reg false [⟨(some 9), .callF 37 [], none⟩,
    ⟨(some 4), .op (.mov (.t 9)), none⟩])
  (.seq (.seq (.reg false [⟨(some 5), .op (.mov (.c (.i .i64 0))), none⟩])
  (.blk 0 (.loop (.seq (.seq (.reg false [⟨(some 10), .op (.mov (.t 5)), none⟩,
    ⟨(some 11), .op (.mov (.t 4)), none⟩,
    ⟨(some 12), .op (.len false (.t 11)), none⟩,
    ⟨(some 13), .op (.bin .lss (.t 10) (.t 12)), none⟩])
  (.cond (.t 13) (.skip) (.exit 0)))
  (.seq (.blk 1 (.seq (.reg false [⟨(some 17), .op (.mov (.t 0)), none⟩,
    ⟨(some 18), .op (.mov (.t 4)), none⟩,
    ⟨(some 19), .op (.mov (.t 5)), none⟩,
    ⟨(some 20), .op (.iAddrS 2 (.t 18) (.t 19)), none⟩,
    ⟨(some 21), .op (.fAddr 0 (.t 20)), none⟩,
    ⟨(some 22), .op (.load1 (.t 21)), none⟩,
    ⟨(some 23), .callF 12 [(.t 17), (.t 22)], none⟩,
    ⟨(some 16), .op (.mov (.t 23)), none⟩,
    ⟨(some 24), .op (.ext (.t 16) 0), none⟩,
    ⟨(some 25), .op (.ext (.t 16) 1), none⟩,
    ⟨(some 6), .op (.mov (.t 24)), none⟩,
    ⟨(some 7), .op (.mov (.t 25)), none⟩])
  (.seq (.seq (.reg false [⟨(some 26), .op (.mov (.t 7)), none⟩,
    ⟨(some 27), .op (.bin .neq (.t 26) (.c (.i .i64 0))), none⟩])
  (.cond (.t 27) (.exit 1) (.skip)))
  (.seq (.reg false [⟨(some 28), .op (.mov (.t 3)), none⟩,
    ⟨(some 29), .op (.mov (.t 4)), none⟩,
    ⟨(some 30), .op (.mov (.t 5)), none⟩,
    ⟨(some 31), .op (.iAddrS 2 (.t 29) (.t 30)), none⟩,
    ⟨(some 32), .op (.fAddr 0 (.t 31)), none⟩,
    ⟨(some 33), .op (.load1 (.t 32)), none⟩,
    ⟨(some 34), .op (.mov (.t 6)), none⟩,
    ⟨(some 35), .op (.build [.s [], .i .u32 0] [(0, 1, (.t 33)), (1, 1, (.t 34))]), none⟩,
    ⟨(some 36), .op (.buildS 1 [.s [], .i .u32 0] [(0, 2, (.t 35))]), none⟩,
    ⟨(some 37), .op (.app 2 24 true (.t 28) (.t 36)), none⟩,
    ⟨(some 3), .op (.mov (.t 37)), none⟩])
  (.seq (.reg false [⟨(some 38), .op (.mov (.t 3)), none⟩,
    ⟨(some 39), .op (.len false (.t 38)), none⟩,
    ⟨(some 40), .op (.bin .sub (.t 39) (.c (.i .i64 1))), none⟩,
    ⟨(some 8), .op (.mov (.t 40)), none⟩])
  (.blk 2 (.loop (.seq (.seq (.reg true [⟨(some 41), .op (.mov (.t 8)), none⟩,
    ⟨(some 42), .op (.bin .gtr (.t 41) (.c (.i .i64 0))), none⟩,
    ⟨(some 43), .op (.mov (.t 42)), none⟩,
    ⟨(some 44), .op (.mov (.t 3)), (some (43, true))⟩,
    ⟨(some 45), .op (.mov (.t 8)), (some (43, true))⟩,
    ⟨(some 46), .op (.iAddrS 2 (.t 44) (.t 45)), (some (43, true))⟩,
    ⟨(some 47), .op (.fAddr 1 (.t 46)), (some (43, true))⟩,
    ⟨(some 48), .op (.load1 (.t 47)), (some (43, true))⟩,
    ⟨(some 49), .op (.mov (.t 3)), (some (43, true))⟩,
    ⟨(some 50), .op (.mov (.t 8)), (some (43, true))⟩,
    ⟨(some 51), .op (.bin .sub (.t 50) (.c (.i .i64 1))), (some (43, true))⟩,
    ⟨(some 52), .op (.iAddrS 2 (.t 49) (.t 51)), (some (43, true))⟩,
    ⟨(some 53), .op (.fAddr 1 (.t 52)), (some (43, true))⟩,
    ⟨(some 54), .op (.load1 (.t 53)), (some (43, true))⟩,
    ⟨(some 55), .op (.bin .lss (.t 48) (.t 54)), (some (43, true))⟩,
    ⟨(some 56), .op (.pick (.t 43) (.t 55) (.c (.b false))), none⟩])
  (.cond (.t 56) (.skip) (.exit 2)))
  (.seq (.blk 3 (.reg true [⟨(some 59), .op (.mov (.t 3)), none⟩,
    ⟨(some 60), .op (.mov (.t 8)), none⟩,
    ⟨(some 61), .op (.mov (.t 3)), none⟩,
    ⟨(some 62), .op (.mov (.t 8)), none⟩,
    ⟨(some 63), .op (.bin .sub (.t 62) (.c (.i .i64 1))), none⟩,
    ⟨(some 64), .op (.mov (.t 3)), none⟩,
    ⟨(some 65), .op (.mov (.t 8)), none⟩,
    ⟨(some 66), .op (.bin .sub (.t 65) (.c (.i .i64 1))), none⟩,
    ⟨(some 67), .op (.iAddrS 2 (.t 64) (.t 66)), none⟩,
    ⟨(some 68), .op (.loadN 2 (.t 67)), none⟩,
    ⟨(some 69), .op (.mov (.t 3)), none⟩,
    ⟨(some 70), .op (.mov (.t 8)), none⟩,
    ⟨(some 71), .op (.iAddrS 2 (.t 69) (.t 70)), none⟩,
    ⟨(some 72), .op (.loadN 2 (.t 71)), none⟩,
    ⟨(some 73), .op (.iAddrS 2 (.t 59) (.t 60)), none⟩,
    ⟨none, .op (.store 2 (.t 73) (.t 68)), none⟩,
    ⟨(some 74), .op (.iAddrS 2 (.t 61) (.t 63)), none⟩,
    ⟨none, .op (.store 2 (.t 74) (.t 72)), none⟩]))
  (.reg false [⟨(some 57), .op (.mov (.t 8)), none⟩,
    ⟨(some 58), .op (.bin .sub (.t 57) (.c (.i .i64 1))), none⟩,
    ⟨(some 8), .op (.mov (.t 58)), none⟩]))))))))))
  (.reg false [⟨(some 14), .op (.mov (.t 5)), none⟩,
    ⟨(some 15), .op (.bin .add (.t 14) (.c (.i .i64 1))), none⟩,
    ⟨(some 5), .op (.mov (.t 15)), none⟩]))))))
  (.seq (.reg false [⟨(some 75), .op (.mov (.t 3)), none⟩,
    ⟨(some 2), .op (.mov (.t 75)), none⟩])
  (.ret)))))⟩
-- vestibule/groups.Expand
def i22 : IFn := ⟨[.tmp 2, .tmp 3],
  .seq (.reg false [⟨(some 2), .op (.mov (.c (.nils))), none⟩,
    ⟨(some 3), .op (.mov (.c (.i .i64 0))), none⟩])
  (.seq (.blk 0 (.seq (.reg false [⟨(some 7), .op (.mov (.t 0)), none⟩,
    ⟨(some 8), .callF 30 [(.t 7)], none⟩,
    ⟨(some 9), .op (.un .not (.t 8)), none⟩,
    ⟨(some 6), .op (.mov (.t 9)), none⟩])
  (.cond (.t 6) (.seq (.reg false [⟨(some 2), .op (.mov (.c (.nils))), none⟩,
    ⟨(some 3), .op (.mov (.c (.i .i64 110))), none⟩])
  (.ret)) (.seq (.reg false [⟨(some 11), .op (.mov (.t 0)), none⟩,
    ⟨(some 12), .callF 28 [(.t 11)], none⟩,
    ⟨(some 13), .op (.bin .gtr (.t 12) (.c (.i .i64 4))), none⟩,
    ⟨(some 10), .op (.mov (.t 13)), none⟩])
  (.cond (.t 10) (.seq (.reg false [⟨(some 2), .op (.mov (.c (.nils))), none⟩,
    ⟨(some 3), .op (.mov (.c (.i .i64 111))), none⟩])
  (.ret)) (.skip))))))
  (.seq (.reg false [⟨(some 4), .op (.alloc [.nils]), none⟩])
  (.seq (.reg false [⟨(some 5), .op (.alloc [.nilf]), none⟩])
  (.seq (.reg false [⟨(some 14), .op (.mkF 44 [] [(.t 5), (.t 4)]), none⟩,
    ⟨none, .op (.store 1 (.t 5) (.t 14)), none⟩])
  (.seq (.reg false [⟨(some 15), .op (.load1 (.t 5)), none⟩,
    ⟨(some 16), .op (.mov (.t 0)), none⟩,
    ⟨(some 17), .callV (.t 15) [(.t 16)], none⟩])
  (.seq (.reg false [⟨(some 18), .op (.load1 (.t 4)), none⟩,
    ⟨(some 19), .callF 46 [(.t 18)], none⟩])
  (.seq (.reg false [⟨(some 20), .op (.load1 (.t 4)), none⟩,
    ⟨(some 21), .callF 47 [(.t 20)], none⟩,
    ⟨(some 2), .op (.mov (.t 21)), none⟩,
    ⟨(some 3), .op (.mov (.c (.i .i64 0))), none⟩])
  (.ret))))))))⟩
-- vestibule/vestibuleref11.Expand
def i23 : IFn := ⟨[.tmp 2, .tmp 3],
  .seq (.reg false [⟨(some 2), .op (.mov (.c (.nils))), none⟩,
    ⟨(some 3), .op (.mov (.c (.i .i64 0))), none⟩])
  (.seq (.seq (.reg false [⟨(some 8), .op (.mov (.t 0)), none⟩,
    ⟨(some 9), .callF 31 [(.t 8)], none⟩,
    ⟨(some 10), .op (.len false (.t 9)), none⟩,
    ⟨(some 11), .op (.bin .eql (.t 10) (.c (.i .i64 0))), none⟩])
  (.cond (.t 11) (.seq (.reg false [⟨(some 2), .op (.mov (.c (.nils))), none⟩,
    ⟨(some 3), .op (.mov (.c (.i .i64 110))), none⟩])
  (.ret)) (.skip)))
  (.seq (.seq (.reg false [⟨(some 12), .op (.mov (.t 0)), none⟩,
    ⟨(some 13), .callF 29 [(.t 12)], none⟩,
    ⟨(some 14), .op (.bin .gtr (.t 13) (.c (.i .i64 4))), none⟩])
  (.cond (.t 14) (.seq (.reg false [⟨(some 2), .op (.mov (.c (.nils))), none⟩,
    ⟨(some 3), .op (.mov (.c (.i .i64 111))), none⟩])
  (.ret)) (.skip)))
  (.seq (.reg false [⟨(some 4), .op (.mov (.c (.nils))), none⟩])
  (.seq (.reg false [⟨(some 15), .op (.mov (.t 0)), none⟩,
    ⟨(some 16), .op (.buildS 1 [.s []] [(0, 1, (.t 15))]), none⟩,
    ⟨(some 5), .op (.mov (.t 16)), none⟩])
  (.seq (.blk 0 (.loop (.seq (.seq (.reg false [⟨(some 17), .op (.mov (.t 5)), none⟩,
    ⟨(some 18), .op (.len false (.t 17)), none⟩,
    ⟨(some 19), .op (.bin .gtr (.t 18) (.c (.i .i64 0))), none⟩])
  (.cond (.t 19) (.skip) (.exit 0)))
  (.blk 1 (.seq (.reg false [⟨(some 20), .op (.mov (.t 5)), none⟩,
    ⟨(some 21), .op (.iAddrS 1 (.t 20) (.c (.i .i64 0))), none⟩,
    ⟨(some 22), .op (.load1 (.t 21)), none⟩,
    ⟨(some 23), .callF 31 [(.t 22)], none⟩,
    ⟨(some 6), .op (.mov (.t 23)), none⟩])
  (.seq (.reg false [⟨(some 24), .op (.mov (.t 5)), none⟩,
    ⟨(some 25), .op (.slcS 1 (.t 24) (some (.c (.i .i64 1))) none none), none⟩,
    ⟨(some 5), .op (.mov (.t 25)), none⟩])
  (.seq (.reg false [⟨(some 7), .op (.mov (.c (.i .i64 0))), none⟩])
  (.blk 2 (.loop (.seq (.seq (.reg false [⟨(some 26), .op (.mov (.t 7)), none⟩,
    ⟨(some 27), .op (.mov (.t 6)), none⟩,
    ⟨(some 28), .op (.len false (.t 27)), none⟩,
    ⟨(some 29), .op (.bin .lss (.t 26) (.t 28)), none⟩])
  (.cond (.t 29) (.skip) (.exit 2)))
  (.seq (.blk 3 (.seq (.reg false [⟨(some 32), .op (.mov (.t 6)), none⟩,
    ⟨(some 33), .op (.mov (.t 7)), none⟩,
    ⟨(some 34), .op (.iAddrS 1 (.t 32) (.t 33)), none⟩,
    ⟨(some 35), .op (.load1 (.t 34)), none⟩,
    ⟨(some 36), .callF 31 [(.t 35)], none⟩,
    ⟨(some 37), .op (.len false (.t 36)), none⟩,
    ⟨(some 38), .op (.bin .gtr (.t 37) (.c (.i .i64 0))), none⟩])
  (.cond (.t 38) (.reg false [⟨(some 39), .op (.mov (.t 5)), none⟩,
    ⟨(some 40), .op (.mov (.t 6)), none⟩,
    ⟨(some 41), .op (.mov (.t 7)), none⟩,
    ⟨(some 42), .op (.iAddrS 1 (.t 40) (.t 41)), none⟩,
    ⟨(some 43), .op (.load1 (.t 42)), none⟩,
    ⟨(some 44), .op (.buildS 1 [.s []] [(0, 1, (.t 43))]), none⟩,
    ⟨(some 45), .op (.app 1 16 true (.t 39) (.t 44)), none⟩,
    ⟨(some 5), .op (.mov (.t 45)), none⟩]) (.reg false [⟨(some 46), .op (.mov (.t 4)), none⟩,
    ⟨(some 47), .op (.mov (.t 6)), none⟩,
    ⟨(some 48), .op (.mov (.t 7)), none⟩,
    ⟨(some 49), .op (.iAddrS 1 (.t 47) (.t 48)), none⟩,
    ⟨(some 50), .op (.load1 (.t 49)), none⟩,
    ⟨(some 51), .callF 48 [(.t 46), (.t 50)], none⟩,
    ⟨(some 4), .op (.mov (.t 51)), none⟩]))))
  (.reg false [⟨(some 30), .op (.mov (.t 7)), none⟩,
    ⟨(some 31), .op (.bin .add (.t 30) (.c (.i .i64 1))), none⟩,
    ⟨(some 7), .op (.mov (.t 31)), none⟩]))))))))))))
  (.seq (.reg false [⟨(some 52), .op (.mov (.t 4)), none⟩,
    ⟨(some 2), .op (.mov (.t 52)), none⟩,
    ⟨(some 3), .op (.mov (.c (.i .i64 0))), none⟩])
  (.ret)))))))⟩
-- vestibule/vestibulelaw11.same
def i24 : IFn := ⟨[.tmp 4],
  .seq (.reg false [⟨(some 4), .op (.mov (.c (.b false))), none⟩])
  (.seq (.seq (.reg false [⟨(some 6), .op (.mov (.t 0)), none⟩,
    ⟨(some 7), .op (.len false (.t 6)), none⟩,
    ⟨(some 8), .op (.mov (.t 1)), none⟩,
    ⟨(some 9), .op (.len false (.t 8)), none⟩,
    ⟨(some 10), .op (.bin .neq (.t 7) (.t 9)), none⟩])
  (.cond (.t 10) (.seq (.reg false [⟨(some 4), .op (.mov (.c (.b false))), none⟩])
  (.ret)) (.skip)))
  (.seq (.seq (.reg false [⟨(some 5), .op (.mov (.c (.i .i64 0))), none⟩])
  (.blk 0 (.loop (.seq (.seq (.reg false [⟨(some 11), .op (.mov (.t 5)), none⟩,
    ⟨(some 12), .op (.mov (.t 0)), none⟩,
    ⟨(some 13), .op (.len false (.t 12)), none⟩,
    ⟨(some 14), .op (.bin .lss (.t 11) (.t 13)), none⟩])
  (.cond (.t 14) (.skip) (.exit 0)))
  (.seq (.blk 1 (.seq (.reg true [⟨(some 17), .op (.mov (.t 0)), none⟩,
    ⟨(some 18), .op (.mov (.t 5)), none⟩,
    ⟨(some 19), .op (.iAddrS 1 (.t 17) (.t 18)), none⟩,
    ⟨(some 20), .op (.load1 (.t 19)), none⟩,
    ⟨(some 21), .op (.mov (.t 1)), none⟩,
    ⟨(some 22), .op (.mov (.t 5)), none⟩,
    ⟨(some 23), .op (.iAddrS 1 (.t 21) (.t 22)), none⟩,
    ⟨(some 24), .op (.load1 (.t 23)), none⟩,
    ⟨(some 25), .op (.bin .neq (.t 20) (.t 24)), none⟩])
  (.cond (.t 25) (.seq (.reg false [⟨(some 4), .op (.mov (.c (.b false))), none⟩])
  (.ret)) (.skip))))
  (.reg false [⟨(some 15), .op (.mov (.t 5)), none⟩,
    ⟨(some 16), .op (.bin .add (.t 15) (.c (.i .i64 1))), none⟩,
    ⟨(some 5), .op (.mov (.t 16)), none⟩]))))))
  (.seq (.reg false [⟨(some 4), .op (.mov (.c (.b true))), none⟩])
  (.ret))))⟩
-- vestibule/vestibulelaw11.awake
def i25 : IFn := ⟨[.tmp 0],
  .seq (.reg false [⟨(some 0), .op (.mov (.c (.b false))), none⟩])
  (.seq (.reg false [⟨(some 10), .callF 22 [(.c (.s [64, 102, 105, 108, 101]))], none⟩,
    ⟨(some 9), .op (.mov (.t 10)), none⟩,
    ⟨(some 11), .op (.ext (.t 9) 0), none⟩,
    ⟨(some 12), .op (.ext (.t 9) 1), none⟩,
    ⟨(some 1), .op (.mov (.t 11)), none⟩,
    ⟨(some 2), .op (.mov (.t 12)), none⟩])
  (.seq (.reg false [⟨(some 14), .callF 22 [(.c (.s [64, 110, 101, 115, 116]))], none⟩,
    ⟨(some 13), .op (.mov (.t 14)), none⟩,
    ⟨(some 15), .op (.ext (.t 13) 0), none⟩,
    ⟨(some 16), .op (.ext (.t 13) 1), none⟩,
    ⟨(some 3), .op (.mov (.t 15)), none⟩,
    ⟨(some 4), .op (.mov (.t 16)), none⟩])
  (.seq (.reg false [⟨(some 18), .callF 22 [(.c (.s [64, 110, 101, 115, 116, 45, 50]))], none⟩,
    ⟨(some 17), .op (.mov (.t 18)), none⟩,
    ⟨(some 19), .op (.ext (.t 17) 0), none⟩,
    ⟨(some 20), .op (.ext (.t 17) 1), none⟩,
    ⟨(some 5), .op (.mov (.t 19)), none⟩,
    ⟨(some 6), .op (.mov (.t 20)), none⟩])
  (.seq (.reg false [⟨(some 22), .callF 22 [(.c (.s [102, 105, 108, 101]))], none⟩,
    ⟨(some 21), .op (.mov (.t 22)), none⟩,
    ⟨(some 23), .op (.ext (.t 21) 0), none⟩,
    ⟨(some 24), .op (.ext (.t 21) 1), none⟩,
    ⟨(some 7), .op (.mov (.t 23)), none⟩,
    ⟨(some 8), .op (.mov (.t 24)), none⟩])
  (.seq (.reg false [⟨(some 25), .op (.mov (.t 1)), none⟩,
    ⟨(some 26), .op (.buildS 6 [.s []] [(0, 1, (.c (.s [99, 108, 111, 115, 101]))), (1, 1, (.c (.s [105, 111, 99, 116, 108]))), (2, 1, (.c (.s [111, 112, 101, 110]))), (3, 1, (.c (.s [111, 112, 101, 110, 97, 116]))), (4, 1, (.c (.s [114, 101, 97, 100]))), (5, 1, (.c (.s [119, 114, 105, 116, 101])))]), none⟩,
    ⟨(some 27), .callF 24 [(.t 25), (.t 26)], none⟩,
    ⟨(some 28), .op (.mov (.t 27)), none⟩,
    ⟨(some 29), .op (.mov (.t 2)), (some (28, true))⟩,
    ⟨(some 30), .op (.bin .eql (.t 29) (.c (.i .i64 0))), (some (28, true))⟩,
    ⟨(some 31), .op (.pick (.t 28) (.t 30) (.c (.b false))), none⟩,
    ⟨(some 32), .op (.mov (.t 31)), none⟩,
    ⟨(some 33), .op (.mov (.t 4)), (some (32, true))⟩,
    ⟨(some 34), .op (.bin .eql (.t 33) (.c (.i .i64 111))), (some (32, true))⟩,
    ⟨(some 35), .op (.pick (.t 32) (.t 34) (.c (.b false))), none⟩,
    ⟨(some 36), .op (.mov (.t 35)), none⟩,
    ⟨(some 37), .op (.mov (.t 5)), (some (36, true))⟩,
    ⟨(some 38), .op (.buildS 4 [.s []] [(0, 1, (.c (.s [101, 120, 105, 116]))), (1, 1, (.c (.s [103, 101, 116, 117, 105, 100]))), (2, 1, (.c (.s [114, 101, 97, 100]))), (3, 1, (.c (.s [115, 101, 116, 117, 105, 100])))]), (some (36, true))⟩,
    ⟨(some 39), .callF 24 [(.t 37), (.t 38)], (some (36, true))⟩,
    ⟨(some 40), .op (.pick (.t 36) (.t 39) (.c (.b false))), none⟩,
    ⟨(some 41), .op (.mov (.t 40)), none⟩,
    ⟨(some 42), .op (.mov (.t 6)), (some (41, true))⟩,
    ⟨(some 43), .op (.bin .eql (.t 42) (.c (.i .i64 0))), (some (41, true))⟩,
    ⟨(some 44), .op (.pick (.t 41) (.t 43) (.c (.b false))), none⟩,
    ⟨(some 45), .op (.mov (.t 44)), none⟩,
    ⟨(some 46), .op (.mov (.t 8)), (some (45, true))⟩,
    ⟨(some 47), .op (.bin .eql (.t 46) (.c (.i .i64 110))), (some (45, true))⟩,
    ⟨(some 48), .op (.pick (.t 45) (.t 47) (.c (.b false))), none⟩,
    ⟨(some 49), .op (.mov (.t 48)), none⟩,
    ⟨(some 50), .callF 28 [(.c (.s [64, 115, 121, 115, 116, 101, 109]))], (some (49, true))⟩,
    ⟨(some 51), .op (.bin .eql (.t 50) (.c (.i .i64 3))), (some (49, true))⟩,
    ⟨(some 52), .op (.pick (.t 49) (.t 51) (.c (.b false))), none⟩,
    ⟨(some 53), .op (.mov (.t 52)), none⟩,
    ⟨(some 54), .callF 28 [(.c (.s [64, 99, 108, 111, 99, 107]))], (some (53, true))⟩,
    ⟨(some 55), .op (.bin .eql (.t 54) (.c (.i .i64 1))), (some (53, true))⟩,
    ⟨(some 56), .op (.pick (.t 53) (.t 55) (.c (.b false))), none⟩,
    ⟨(some 57), .op (.mov (.t 56)), none⟩,
    ⟨(some 58), .callF 28 [(.c (.s [114, 101, 97, 100]))], (some (57, true))⟩,
    ⟨(some 59), .op (.bin .eql (.t 58) (.c (.i .i64 0))), (some (57, true))⟩,
    ⟨(some 60), .op (.pick (.t 57) (.t 59) (.c (.b false))), none⟩,
    ⟨(some 0), .op (.mov (.t 60)), none⟩])
  (.ret))))))⟩
-- vestibule/vestibuleref11.Table
def i26 : IFn := ⟨[.tmp 0],
  .seq (.reg false [⟨(some 0), .op (.mov (.c (.nils))), none⟩])
  (.seq (.reg false [⟨(some 1), .op (.buildS 3 [.s []] [(0, 1, (.c (.s [114, 101, 97, 100]))), (1, 1, (.c (.s [119, 114, 105, 116, 101]))), (2, 1, (.c (.s [99, 108, 111, 115, 101])))]), none⟩,
    ⟨(some 2), .op (.build [.s [], .nils] [(0, 1, (.c (.s [64, 98, 97, 115, 105, 99, 45, 105, 111]))), (1, 1, (.t 1))]), none⟩,
    ⟨(some 3), .op (.buildS 2 [.s []] [(0, 1, (.c (.s [99, 108, 111, 99, 107, 95, 115, 101, 116, 116, 105, 109, 101]))), (1, 1, (.c (.s [115, 101, 116, 116, 105, 109, 101, 111, 102, 100, 97, 121])))]), none⟩,
    ⟨(some 4), .op (.build [.s [], .nils] [(0, 1, (.c (.s [64, 99, 108, 111, 99, 107]))), (1, 1, (.t 3))]), none⟩,
    ⟨(some 5), .op (.buildS 2 [.s []] [(0, 1, (.c (.s [112, 116, 114, 97, 99, 101]))), (1, 1, (.c (.s [112, 101, 114, 115, 111, 110, 97, 108, 105, 116, 121])))]), none⟩,
    ⟨(some 6), .op (.build [.s [], .nils] [(0, 1, (.c (.s [64, 100, 101, 98, 117, 103]))), (1, 1, (.t 5))]), none⟩,
    ⟨(some 7), .op (.buildS 4 [.s []] [(0, 1, (.c (.s [64, 98, 97, 115, 105, 99, 45, 105, 111]))), (1, 1, (.c (.s [111, 112, 101, 110]))), (2, 1, (.c (.s [111, 112, 101, 110, 97, 116]))), (3, 1, (.c (.s [105, 111, 99, 116, 108])))]), none⟩,
    ⟨(some 8), .op (.build [.s [], .nils] [(0, 1, (.c (.s [64, 102, 105, 108, 101]))), (1, 1, (.t 7))]), none⟩,
    ⟨(some 9), .op (.buildS 6 [.s []] [(0, 1, (.c (.s [98, 114, 107]))), (1, 1, (.c (.s [109, 109, 97, 112]))), (2, 1, (.c (.s [109, 112, 114, 111, 116, 101, 99, 116]))), (3, 1, (.c (.s [109, 117, 110, 109, 97, 112]))), (4, 1, (.c (.s [112, 107, 101, 121, 95, 109, 112, 114, 111, 116, 101, 99, 116]))), (5, 1, (.c (.s [115, 104, 109, 97, 116])))]), none⟩,
    ⟨(some 10), .op (.build [.s [], .nils] [(0, 1, (.c (.s [64, 109, 101, 109, 111, 114, 121]))), (1, 1, (.t 9))]), none⟩,
    ⟨(some 11), .op (.buildS 3 [.s []] [(0, 1, (.c (.s [100, 101, 108, 101, 116, 101, 95, 109, 111, 100, 117, 108, 101]))), (1, 1, (.c (.s [102, 105, 110, 105, 116, 95, 109, 111, 100, 117, 108, 101]))), (2, 1, (.c (.s [105, 110, 105, 116, 95, 109, 111, 100, 117, 108, 101])))]), none⟩,
    ⟨(some 12), .op (.build [.s [], .nils] [(0, 1, (.c (.s [64, 109, 111, 100, 117, 108, 101]))), (1, 1, (.t 11))]), none⟩,
    ⟨(some 13), .op (.buildS 2 [.s []] [(0, 1, (.c (.s [109, 111, 117, 110, 116]))), (1, 1, (.c (.s [117, 109, 111, 117, 110, 116, 50])))]), none⟩,
    ⟨(some 14), .op (.build [.s [], .nils] [(0, 1, (.c (.s [64, 109, 111, 117, 110, 116]))), (1, 1, (.t 13))]), none⟩,
    ⟨(some 15), .op (.buildS 2 [.s []] [(0, 1, (.c (.s [64, 110, 101, 115, 116, 45, 50]))), (1, 1, (.c (.s [107, 105, 108, 108])))]), none⟩,
    ⟨(some 16), .op (.build [.s [], .nils] [(0, 1, (.c (.s [64, 110, 101, 115, 116]))), (1, 1, (.t 15))]), none⟩,
    ⟨(some 17), .op (.buildS 2 [.s []] [(0, 1, (.c (.s [64, 110, 101, 115, 116, 45, 51]))), (1, 1, (.c (.s [103, 101, 116, 117, 105, 100])))]), none⟩,
    ⟨(some 18), .op (.build [.s [], .nils] [(0, 1, (.c (.s [64, 110, 101, 115, 116, 45, 50]))), (1, 1, (.t 17))]), none⟩,
    ⟨(some 19), .op (.buildS 2 [.s []] [(0, 1, (.c (.s [64, 110, 101, 115, 116, 45, 52]))), (1, 1, (.c (.s [115, 101, 116, 117, 105, 100])))]), none⟩,
    ⟨(some 20), .op (.build [.s [], .nils] [(0, 1, (.c (.s [64, 110, 101, 115, 116, 45, 51]))), (1, 1, (.t 19))]), none⟩,
    ⟨(some 21), .op (.buildS 2 [.s []] [(0, 1, (.c (.s [64, 110, 101, 115, 116, 45, 53]))), (1, 1, (.c (.s [101, 120, 105, 116])))]), none⟩,
    ⟨(some 22), .op (.build [.s [], .nils] [(0, 1, (.c (.s [64, 110, 101, 115, 116, 45, 52]))), (1, 1, (.t 21))]), none⟩,
    ⟨(some 23), .op (.buildS 1 [.s []] [(0, 1, (.c (.s [114, 101, 97, 100])))]), none⟩,
    ⟨(some 24), .op (.build [.s [], .nils] [(0, 1, (.c (.s [64, 110, 101, 115, 116, 45, 53]))), (1, 1, (.t 23))]), none⟩,
    ⟨(some 25), .op (.buildS 4 [.s []] [(0, 1, (.c (.s [98, 105, 110, 100]))), (1, 1, (.c (.s [99, 111, 110, 110, 101, 99, 116]))), (2, 1, (.c (.s [108, 105, 115, 116, 101, 110]))), (3, 1, (.c (.s [115, 111, 99, 107, 101, 116])))]), none⟩,
    ⟨(some 26), .op (.build [.s [], .nils] [(0, 1, (.c (.s [64, 110, 101, 116, 119, 111, 114, 107]))), (1, 1, (.t 25))]), none⟩,
    ⟨(some 27), .op (.buildS 6 [.s []] [(0, 1, (.c (.s [64, 99, 108, 111, 99, 107]))), (1, 1, (.c (.s [64, 109, 111, 100, 117, 108, 101]))), (2, 1, (.c (.s [64, 109, 111, 117, 110, 116]))), (3, 1, (.c (.s [64, 114, 101, 98, 111, 111, 116]))), (4, 1, (.c (.s [98, 112, 102]))), (5, 1, (.c (.s [115, 101, 116, 117, 105, 100])))]), none⟩,
    ⟨(some 28), .op (.build [.s [], .nils] [(0, 1, (.c (.s [64, 112, 114, 105, 118, 105, 108, 101, 103, 101, 100]))), (1, 1, (.t 27))]), none⟩,
    ⟨(some 29), .op (.buildS 8 [.s []] [(0, 1, (.c (.s [99, 108, 111, 110, 101]))), (1, 1, (.c (.s [99, 108, 111, 110, 101, 51]))), (2, 1, (.c (.s [101, 120, 101, 99, 118, 101]))), (3, 1, (.c (.s [101, 120, 105, 116]))), (4, 1, (.c (.s [102, 111, 114, 107]))), (5, 1, (.c (.s [107, 105, 108, 108]))), (6, 1, (.c (.s [115, 101, 116, 110, 115]))), (7, 1, (.c (.s [117, 110, 115, 104, 97, 114, 101])))]), none⟩,
    ⟨(some 30), .op (.build [.s [], .nils] [(0, 1, (.c (.s [64, 112, 114, 111, 99, 101, 115, 115]))), (1, 1, (.t 29))]), none⟩,
    ⟨(some 31), .op (.buildS 1 [.s []] [(0, 1, (.c (.s [114, 101, 98, 111, 111, 116])))]), none⟩,
    ⟨(some 32), .op (.build [.s [], .nils] [(0, 1, (.c (.s [64, 114, 101, 98, 111, 111, 116]))), (1, 1, (.t 31))]), none⟩,
    ⟨(some 33), .op (.buildS 2 [.s []] [(0, 1, (.c (.s [115, 99, 104, 101, 100, 95, 115, 101, 116, 97, 116, 116, 114]))), (1, 1, (.c (.s [115, 99, 104, 101, 100, 95, 115, 101, 116, 115, 99, 104, 101, 100, 117, 108, 101, 114])))]), none⟩,
    ⟨(some 34), .op (.build [.s [], .nils] [(0, 1, (.c (.s [64, 114, 101, 115, 111, 117, 114, 99, 101, 115]))), (1, 1, (.t 33))]), none⟩,
    ⟨(some 35), .op (.buildS 5 [.s []] [(0, 1, (.c (.s [64, 102, 105, 108, 101]))), (1, 1, (.c (.s [64, 109, 101, 109, 111, 114, 121]))), (2, 1, (.c (.s [64, 110, 101, 116, 119, 111, 114, 107]))), (3, 1, (.c (.s [64, 112, 114, 111, 99, 101, 115, 115]))), (4, 1, (.c (.s [103, 101, 116, 117, 105, 100])))]), none⟩,
    ⟨(some 36), .op (.build [.s [], .nils] [(0, 1, (.c (.s [64, 115, 121, 115, 116, 101, 109]))), (1, 1, (.t 35))]), none⟩,
    ⟨(some 37), .op (.buildS 18 [.s [], .nils] [(0, 2, (.t 2)), (2, 2, (.t 4)), (4, 2, (.t 6)), (6, 2, (.t 8)), (8, 2, (.t 10)), (10, 2, (.t 12)), (12, 2, (.t 14)), (14, 2, (.t 16)), (16, 2, (.t 18)), (18, 2, (.t 20)), (20, 2, (.t 22)), (22, 2, (.t 24)), (24, 2, (.t 26)), (26, 2, (.t 28)), (28, 2, (.t 30)), (30, 2, (.t 32)), (32, 2, (.t 34)), (34, 2, (.t 36))]), none⟩,
    ⟨(some 0), .op (.mov (.t 37)), none⟩])
  (.ret))⟩
-- vestibule/groups.Names
def i27 : IFn := ⟨[.tmp 0],
  .seq (.reg false [⟨(some 0), .op (.mov (.c (.nils))), none⟩])
  (.seq (.reg false [⟨(some 1), .op (.mov (.c (.nils))), none⟩])
  (.seq (.seq (.reg false [⟨(some 4), .callF 49 [], none⟩,
    ⟨(some 5), .op (.len false (.t 4)), none⟩,
    ⟨(some 6), .op (.mov (.c (.i .i64 0))), none⟩])
  (.blk 0 (.loop (.seq (.reg false [⟨(some 7), .op (.bin .lss (.t 6) (.t 5)), none⟩])
  (.seq (.cond (.t 7) (.skip) (.exit 0))
  (.seq (.blk 1 (.seq (.reg false [⟨(some 8), .op (.iAddrS 2 (.t 4) (.t 6)), none⟩,
    ⟨(some 9), .op (.loadN 2 (.t 8)), none⟩,
    ⟨(some 3), .op (.alloc [.s [], .nils]), none⟩,
    ⟨none, .op (.store 2 (.t 3) (.t 9)), none⟩])
  (.reg false [⟨(some 10), .op (.mov (.t 1)), none⟩,
    ⟨(some 11), .op (.fAddr 0 (.t 3)), none⟩,
    ⟨(some 12), .op (.load1 (.t 11)), none⟩,
    ⟨(some 13), .op (.buildS 1 [.s []] [(0, 1, (.t 12))]), none⟩,
    ⟨(some 14), .op (.app 1 16 true (.t 10) (.t 13)), none⟩,
    ⟨(some 1), .op (.mov (.t 14)), none⟩])))
  (.reg false [⟨(some 15), .op (.bin .add (.t 6) (.c (.i .i64 1))), none⟩,
    ⟨(some 6), .op (.mov (.t 15)), none⟩])))))))
  (.seq (.reg false [⟨(some 16), .op (.mov (.t 1)), none⟩,
    ⟨(some 0), .op (.mov (.t 16)), none⟩])
  (.ret))))⟩
-- vestibule/groups.Deep
def i28 : IFn := ⟨[.tmp 2],
  .seq (.reg false [⟨(some 2), .op (.mov (.c (.i .i64 0))), none⟩])
  (.seq (.seq (.reg false [⟨(some 6), .op (.mov (.t 0)), none⟩,
    ⟨(some 7), .callF 30 [(.t 6)], none⟩,
    ⟨(some 8), .op (.un .not (.t 7)), none⟩])
  (.cond (.t 8) (.seq (.reg false [⟨(some 2), .op (.mov (.c (.i .i64 0))), none⟩])
  (.ret)) (.skip)))
  (.seq (.reg false [⟨(some 3), .op (.mov (.c (.i .i64 0))), none⟩])
  (.seq (.seq (.reg false [⟨(some 9), .op (.mov (.t 0)), none⟩,
    ⟨(some 10), .callF 32 [(.t 9)], none⟩,
    ⟨(some 11), .op (.len false (.t 10)), none⟩,
    ⟨(some 12), .op (.mov (.c (.i .i64 0))), none⟩])
  (.blk 0 (.loop (.seq (.reg false [⟨(some 13), .op (.bin .lss (.t 12) (.t 11)), none⟩])
  (.seq (.cond (.t 13) (.skip) (.exit 0))
  (.seq (.blk 1 (.seq (.reg false [⟨(some 14), .op (.iAddrS 1 (.t 10) (.t 12)), none⟩,
    ⟨(some 15), .op (.load1 (.t 14)), none⟩,
    ⟨(some 5), .op (.mov (.t 15)), none⟩])
  (.reg false [⟨(some 16), .op (.mov (.t 3)), none⟩,
    ⟨(some 17), .op (.mov (.t 5)), none⟩,
    ⟨(some 18), .callF 28 [(.t 17)], none⟩,
    ⟨(some 19), .op (.max (.t 16) (.t 18)), none⟩,
    ⟨(some 3), .op (.mov (.t 19)), none⟩])))
  (.reg false [⟨(some 20), .op (.bin .add (.t 12) (.c (.i .i64 1))), none⟩,
    ⟨(some 12), .op (.mov (.t 20)), none⟩])))))))
  (.seq (.reg false [⟨(some 21), .op (.mov (.t 3)), none⟩,
    ⟨(some 22), .op (.bin .add (.t 21) (.c (.i .i64 1))), none⟩,
    ⟨(some 2), .op (.mov (.t 22)), none⟩])
  (.ret)))))⟩
-- vestibule/vestibuleref11.Deep
def i29 : IFn := ⟨[.tmp 2],
  .seq (.reg false [⟨(some 2), .op (.mov (.c (.i .i64 0))), none⟩])
  (.seq (.reg false [⟨(some 7), .op (.mov (.t 0)), none⟩,
    ⟨(some 8), .callF 31 [(.t 7)], none⟩,
    ⟨(some 3), .op (.mov (.t 8)), none⟩])
  (.seq (.reg false [⟨(some 4), .op (.mov (.c (.i .i64 0))), none⟩])
  (.seq (.seq (.reg false [⟨(some 5), .op (.mov (.c (.i .i64 0))), none⟩])
  (.blk 0 (.loop (.seq (.seq (.reg false [⟨(some 9), .op (.mov (.t 5)), none⟩,
    ⟨(some 10), .op (.mov (.t 3)), none⟩,
    ⟨(some 11), .op (.len false (.t 10)), none⟩,
    ⟨(some 12), .op (.bin .lss (.t 9) (.t 11)), none⟩])
  (.cond (.t 12) (.skip) (.exit 0)))
  (.seq (.blk 1 (.seq (.reg false [⟨(some 15), .op (.mov (.t 3)), none⟩,
    ⟨(some 16), .op (.mov (.t 5)), none⟩,
    ⟨(some 17), .op (.iAddrS 1 (.t 15) (.t 16)), none⟩,
    ⟨(some 18), .op (.load1 (.t 17)), none⟩,
    ⟨(some 19), .callF 29 [(.t 18)], none⟩,
    ⟨(some 6), .op (.mov (.t 19)), none⟩])
  (.seq (.reg false [⟨(some 20), .op (.mov (.t 6)), none⟩,
    ⟨(some 21), .op (.bin .add (.t 20) (.c (.i .i64 1))), none⟩,
    ⟨(some 22), .op (.mov (.t 4)), none⟩,
    ⟨(some 23), .op (.bin .gtr (.t 21) (.t 22)), none⟩])
  (.cond (.t 23) (.reg false [⟨(some 24), .op (.mov (.t 6)), none⟩,
    ⟨(some 25), .op (.bin .add (.t 24) (.c (.i .i64 1))), none⟩,
    ⟨(some 4), .op (.mov (.t 25)), none⟩]) (.skip)))))
  (.reg false [⟨(some 13), .op (.mov (.t 5)), none⟩,
    ⟨(some 14), .op (.bin .add (.t 13) (.c (.i .i64 1))), none⟩,
    ⟨(some 5), .op (.mov (.t 14)), none⟩]))))))
  (.seq (.reg false [⟨(some 26), .op (.mov (.t 4)), none⟩,
    ⟨(some 2), .op (.mov (.t 26)), none⟩])
  (.ret)))))⟩
-- vestibule/groups.Known
def i30 : IFn := ⟨[.tmp 2],
  .seq (.reg false [⟨(some 2), .op (.mov (.c (.b false))), none⟩])
  (.seq (.reg false [⟨(some 3), .op (.mov (.t 0)), none⟩,
    ⟨(some 4), .callF 32 [(.t 3)], none⟩,
    ⟨(some 5), .op (.eqN true .slice (.t 4)), none⟩,
    ⟨(some 2), .op (.mov (.t 5)), none⟩])
  (.ret))⟩
-- vestibule/vestibuleref11.Members
def i31 : IFn := ⟨[.tmp 2],
  .seq (.reg false [⟨(some 2), .op (.mov (.c (.nils))), none⟩])
  (.seq (.reg false [⟨(some 5), .callF 26 [], none⟩,
    ⟨(some 3), .op (.mov (.t 5)), none⟩])
  (.seq (.seq (.reg false [⟨(some 4), .op (.mov (.c (.i .i64 0))), none⟩])
  (.blk 0 (.loop (.seq (.seq (.reg false [⟨(some 6), .op (.mov (.t 4)), none⟩,
    ⟨(some 7), .op (.mov (.t 3)), none⟩,
    ⟨(some 8), .op (.len false (.t 7)), none⟩,
    ⟨(some 9), .op (.bin .lss (.t 6) (.t 8)), none⟩])
  (.cond (.t 9) (.skip) (.exit 0)))
  (.seq (.blk 1 (.seq (.reg false [⟨(some 12), .op (.mov (.t 3)), none⟩,
    ⟨(some 13), .op (.mov (.t 4)), none⟩,
    ⟨(some 14), .op (.iAddrS 2 (.t 12) (.t 13)), none⟩,
    ⟨(some 15), .op (.fAddr 0 (.t 14)), none⟩,
    ⟨(some 16), .op (.load1 (.t 15)), none⟩,
    ⟨(some 17), .op (.mov (.t 0)), none⟩,
    ⟨(some 18), .op (.bin .eql (.t 16) (.t 17)), none⟩])
  (.cond (.t 18) (.seq (.reg false [⟨(some 19), .op (.mov (.t 3)), none⟩,
    ⟨(some 20), .op (.mov (.t 4)), none⟩,
    ⟨(some 21), .op (.iAddrS 2 (.t 19) (.t 20)), none⟩,
    ⟨(some 22), .op (.fAddr 1 (.t 21)), none⟩,
    ⟨(some 23), .op (.load1 (.t 22)), none⟩,
    ⟨(some 2), .op (.mov (.t 23)), none⟩])
  (.ret)) (.skip))))
  (.reg false [⟨(some 10), .op (.mov (.t 4)), none⟩,
    ⟨(some 11), .op (.bin .add (.t 10) (.c (.i .i64 1))), none⟩,
    ⟨(some 4), .op (.mov (.t 11)), none⟩]))))))
  (.seq (.reg false [⟨(some 2), .op (.mov (.c (.nils))), none⟩])
  (.ret))))⟩
-- vestibule/groups.Members
def i32 : IFn := ⟨[.tmp 2],
  .seq (.reg false [⟨(some 2), .op (.mov (.c (.nils))), none⟩])
  (.seq (.seq (.reg false [⟨(some 5), .callF 49 [], none⟩,
    ⟨(some 6), .op (.len false (.t 5)), none⟩,
    ⟨(some 7), .op (.mov (.c (.i .i64 0))), none⟩])
  (.blk 0 (.loop (.seq (.reg false [⟨(some 8), .op (.bin .lss (.t 7) (.t 6)), none⟩])
  (.seq (.cond (.t 8) (.skip) (.exit 0))
  (.seq (.blk 1 (.seq (.reg false [⟨(some 9), .op (.iAddrS 2 (.t 5) (.t 7)), none⟩,
    ⟨(some 10), .op (.loadN 2 (.t 9)), none⟩,
    ⟨(some 4), .op (.alloc [.s [], .nils]), none⟩,
    ⟨none, .op (.store 2 (.t 4) (.t 10)), none⟩])
  (.seq (.reg false [⟨(some 11), .op (.fAddr 0 (.t 4)), none⟩,
    ⟨(some 12), .op (.load1 (.t 11)), none⟩,
    ⟨(some 13), .op (.mov (.t 0)), none⟩,
    ⟨(some 14), .op (.bin .eql (.t 12) (.t 13)), none⟩])
  (.cond (.t 14) (.seq (.reg false [⟨(some 15), .op (.fAddr 1 (.t 4)), none⟩,
    ⟨(some 16), .op (.load1 (.t 15)), none⟩,
    ⟨(some 2), .op (.mov (.t 16)), none⟩])
  (.ret)) (.skip)))))
  (.reg false [⟨(some 17), .op (.bin .add (.t 7) (.c (.i .i64 1))), none⟩,
    ⟨(some 7), .op (.mov (.t 17)), none⟩])))))))
  (.seq (.reg false [⟨(some 2), .op (.mov (.c (.nils))), none⟩])
  (.ret)))⟩
-- vestibule/vestibulelaw11.has
def i33 : IFn := ⟨[.tmp 4],
  .seq (.reg false [⟨(some 4), .op (.mov (.c (.b false))), none⟩])
  (.seq (.seq (.reg false [⟨(some 5), .op (.mov (.c (.i .i64 0))), none⟩])
  (.blk 0 (.loop (.seq (.seq (.reg false [⟨(some 6), .op (.mov (.t 5)), none⟩,
    ⟨(some 7), .op (.mov (.t 0)), none⟩,
    ⟨(some 8), .op (.len false (.t 7)), none⟩,
    ⟨(some 9), .op (.bin .lss (.t 6) (.t 8)), none⟩])
  (.cond (.t 9) (.skip) (.exit 0)))
  (.seq (.blk 1 (.seq (.reg false [⟨(some 12), .op (.mov (.t 0)), none⟩,
    ⟨(some 13), .op (.mov (.t 5)), none⟩,
    ⟨(some 14), .op (.iAddrS 1 (.t 12) (.t 13)), none⟩,
    ⟨(some 15), .op (.load1 (.t 14)), none⟩,
    ⟨(some 16), .op (.mov (.t 1)), none⟩,
    ⟨(some 17), .op (.bin .eql (.t 15) (.t 16)), none⟩])
  (.cond (.t 17) (.seq (.reg false [⟨(some 4), .op (.mov (.c (.b true))), none⟩])
  (.ret)) (.skip))))
  (.reg false [⟨(some 10), .op (.mov (.t 5)), none⟩,
    ⟨(some 11), .op (.bin .add (.t 10) (.c (.i .i64 1))), none⟩,
    ⟨(some 5), .op (.mov (.t 11)), none⟩]))))))
  (.seq (.reg false [⟨(some 4), .op (.mov (.c (.b false))), none⟩])
  (.ret)))⟩
-- vestibule/calls.find
def i34 : IFn := ⟨[.cell 2 7 true, .tmp 3],
  .seq (.reg false [⟨(some 2), .op (.alloc [.s [], .i .i64 0, .i .i64 0, .i .i64 0, .i .i64 0, .i .i64 0, .i .i64 0]), none⟩,
    ⟨(some 3), .op (.mov (.c (.b false))), none⟩])
  (.seq (.reg false [⟨(some 6), .callF 38 [], none⟩,
    ⟨(some 4), .op (.alloc [.s [], .i .i64 0, .i .i64 0, .i .i64 0, .i .i64 0, .i .i64 0, .i .i64 0, .s [], .i .i64 0, .i .i64 0, .i .i64 0, .i .i64 0, .i .i64 0, .i .i64 0, .s [], .i .i64 0, .i .i64 0, .i .i64 0, .i .i64 0, .i .i64 0, .i .i64 0, .s [], .i .i64 0, .i .i64 0, .i .i64 0, .i .i64 0, .i .i64 0, .i .i64 0, .s [], .i .i64 0, .i .i64 0, .i .i64 0, .i .i64 0, .i .i64 0, .i .i64 0, .s [], .i .i64 0, .i .i64 0, .i .i64 0, .i .i64 0, .i .i64 0, .i .i64 0, .s [], .i .i64 0, .i .i64 0, .i .i64 0, .i .i64 0, .i .i64 0, .i .i64 0, .s [], .i .i64 0, .i .i64 0, .i .i64 0, .i .i64 0, .i .i64 0, .i .i64 0, .s [], .i .i64 0, .i .i64 0, .i .i64 0, .i .i64 0, .i .i64 0, .i .i64 0, .s [], .i .i64 0, .i .i64 0, .i .i64 0, .i .i64 0, .i .i64 0, .i .i64 0, .s [], .i .i64 0, .i .i64 0, .i .i64 0, .i .i64 0, .i .i64 0, .i .i64 0, .s [], .i .i64 0, .i .i64 0, .i .i64 0, .i .i64 0, .i .i64 0, .i .i64 0, .s [], .i .i64 0, .i .i64 0, .i .i64 0, .i .i64 0, .i .i64 0, .i .i64 0, .s [], .i .i64 0, .i .i64 0, .i .i64 0, .i .i64 0, .i .i64 0, .i .i64 0, .s [], .i .i64 0, .i .i64 0, .i .i64 0, .i .i64 0, .i .i64 0, .i .i64 0, .s [], .i .i64 0, .i .i64 0, .i .i64 0, .i .i64 0, .i .i64 0, .i .i64 0, .s [], .i .i64 0, .i .i64 0, .i .i64 0, .i .i64 0, .i .i64 0, .i .i64 0, .s [], .i .i64 0, .i .i64 0, .i .i64 0, .i .i64 0, .i .i64 0, .i .i64 0, .s [], .i .i64 0, .i .i64 0, .i .i64 0, .i .i64 0, .i .i64 0, .i .i64 0, .s [], .i .i64 0, .i .i64 0, .i .i64 0, .i .i64 0, .i .i64 0, .i .i64 0, .s [], .i .i64 0, .i .i64 0, .i .i64 0, .i .i64 0, .i .i64 0, .i .i64 0, .s [], .i .i64 0, .i .i64 0, .i .i64 0, .i .i64 0, .i .i64 0, .i .i64 0, .s [], .i .i64 0, .i .i64 0, .i .i64 0, .i .i64 0, .i .i64 0, .i .i64 0, .s [], .i .i64 0, .i .i64 0, .i .i64 0, .i .i64 0, .i .i64 0, .i .i64 0, .s [], .i .i64 0, .i .i64 0, .i .i64 0, .i .i64 0, .i .i64 0, .i .i64 0, .s [], .i .i64 0, .i .i64 0, .i .i64 0, .i .i64 0, .i .i64 0, .i .i64 0, .s [], .i .i64 0, .i .i64 0, .i .i64 0, .i .i64 0, .i .i64 0, .i .i64 0, .s [], .i .i64 0, .i .i64 0, .i .i64 0, .i .i64 0, .i .i64 0, .i .i64 0, .s [], .i .i64 0, .i .i64 0, .i .i64 0, .i .i64 0, .i .i64 0, .i .i64 0, .s [], .i .i64 0, .i .i64 0, .i .i64 0, .i .i64 0, .i .i64 0, .i .i64 0, .s [], .i .i64 0, .i .i64 0, .i .i64 0, .i .i64 0, .i .i64 0, .i .i64 0, .s [], .i .i64 0, .i .i64 0, .i .i64 0, .i .i64 0, .i .i64 0, .i .i64 0, .s [], .i .i64 0, .i .i64 0, .i .i64 0, .i .i64 0, .i .i64 0, .i .i64 0, .s [], .i .i64 0, .i .i64 0, .i .i64 0, .i .i64 0, .i .i64 0, .i .i64 0, .s [], .i .i64 0, .i .i64 0, .i .i64 0, .i .i64 0, .i .i64 0, .i .i64 0, .s [], .i .i64 0, .i .i64 0, .i .i64 0, .i .i64 0, .i .i64 0, .i .i64 0, .s [], .i .i64 0, .i .i64 0, .i .i64 0, .i .i64 0, .i .i64 0, .i .i64 0, .s [], .i .i64 0, .i .i64 0, .i .i64 0, .i .i64 0, .i .i64 0, .i .i64 0, .s [], .i .i64 0, .i .i64 0, .i .i64 0, .i .i64 0, .i .i64 0, .i .i64 0, .s [], .i .i64 0, .i .i64 0, .i .i64 0, .i .i64 0, .i .i64 0, .i .i64 0]), none⟩,
    ⟨none, .op (.store 280 (.t 4) (.t 6)), none⟩])
  (.seq (.reg false [⟨(some 7), .op (.slcA 40 7 (.t 4) none none none), none⟩,
    ⟨(some 8), .op (.mov (.t 0)), none⟩,
    ⟨(some 9), .callF 50 [(.t 7), (.t 8)], none⟩,
    ⟨(some 5), .op (.mov (.t 9)), none⟩])
  (.seq (.seq (.reg false [⟨(some 10), .op (.mov (.t 5)), none⟩,
    ⟨(some 11), .op (.bin .lss (.t 10) (.c (.i .i64 0))), none⟩])
  (.cond (.t 11) (.seq (.reg false [⟨(some 12), .op (.build [.s [], .i .i64 0, .i .i64 0, .i .i64 0, .i .i64 0, .i .i64 0, .i .i64 0] []), none⟩,
    ⟨none, .op (.store 7 (.t 2) (.t 12)), none⟩,
    ⟨(some 3), .op (.mov (.c (.b false))), none⟩])
  (.ret)) (.skip)))
  (.seq (.reg false [⟨(some 13), .op (.mov (.t 5)), none⟩,
    ⟨(some 14), .op (.iAddrA 40 7 (.t 4) (.t 13)), none⟩,
    ⟨(some 15), .op (.loadN 7 (.t 14)), none⟩,
    ⟨none, .op (.store 7 (.t 2) (.t 15)), none⟩,
    ⟨(some 3), .op (.mov (.c (.b true))), none⟩])
  (.ret)))))⟩
-- vestibule/calls.Number$1
def i35 : IFn := ⟨[.tmp 3],
  .seq (.reg false [⟨(some 2), .op (.box (.t 0)), none⟩,
    ⟨(some 3), .op (.mov (.c (.b false))), none⟩])
  (.seq (.reg false [⟨(some 4), .op (.fAddr 0 (.t 2)), none⟩,
    ⟨(some 5), .op (.load1 (.t 4)), none⟩,
    ⟨(some 6), .op (.load1 (.t 1)), none⟩,
    ⟨(some 7), .op (.bin .eql (.t 5) (.t 6)), none⟩,
    ⟨(some 3), .op (.mov (.t 7)), none⟩])
  (.ret))⟩
-- (vestibule/calls.call).number
def i36 : IFn := ⟨[.tmp 4, .tmp 5],
  .seq (.reg false [⟨(some 2), .op (.box (.t 0)), none⟩,
    ⟨(some 4), .op (.mov (.c (.i .u32 0))), none⟩,
    ⟨(some 5), .op (.mov (.c (.b false))), none⟩])
  (.seq (.seq (.reg false [⟨(some 7), .op (.mov (.t 1)), none⟩,
    ⟨(some 8), .op (.bin .lss (.t 7) (.c (.i .i64 0))), none⟩,
    ⟨(some 9), .op (.mov (.t 8)), none⟩,
    ⟨(some 10), .op (.mov (.t 1)), (some (9, false))⟩,
    ⟨(some 11), .op (.bin .geq (.t 10) (.c (.i .i64 6))), (some (9, false))⟩,
    ⟨(some 12), .op (.pick (.t 9) (.c (.b true)) (.t 11)), none⟩,
    ⟨(some 13), .op (.mov (.t 12)), none⟩,
    ⟨(some 14), .op (.mov (.t 1)), (some (13, false))⟩,
    ⟨(some 15), .op (.fAddr 1 (.t 2)), (some (13, false))⟩,
    ⟨(some 16), .op (.iAddrA 6 1 (.t 15) (.t 14)), (some (13, false))⟩,
    ⟨(some 17), .op (.load1 (.t 16)), (some (13, false))⟩,
    ⟨(some 18), .op (.bin .lss (.t 17) (.c (.i .i64 0))), (some (13, false))⟩,
    ⟨(some 19), .op (.pick (.t 13) (.c (.b true)) (.t 18)), none⟩])
  (.cond (.t 19) (.seq (.reg false [⟨(some 4), .op (.mov (.c (.i .u32 0))), none⟩,
    ⟨(some 5), .op (.mov (.c (.b false))), none⟩])
  (.ret)) (.skip)))
  (.seq (.reg false [⟨(some 20), .op (.mov (.t 1)), none⟩,
    ⟨(some 21), .op (.fAddr 1 (.t 2)), none⟩,
    ⟨(some 22), .op (.iAddrA 6 1 (.t 21) (.t 20)), none⟩,
    ⟨(some 23), .op (.load1 (.t 22)), none⟩,
    ⟨(some 24), .op (.cvInt .u32 (.t 23)), none⟩,
    ⟨(some 6), .op (.mov (.t 24)), none⟩])
  (.seq (.seq (.reg false [⟨(some 25), .op (.mov (.t 1)), none⟩,
    ⟨(some 26), .op (.bin .eql (.t 25) (.c (.i .i64 2))), none⟩])
  (.cond (.t 26) (.reg false [⟨(some 27), .op (.mov (.t 6)), none⟩,
    ⟨(some 28), .op (.bin .or (.t 27) (.c (.i .u32 1073741824))), none⟩,
    ⟨(some 6), .op (.mov (.t 28)), none⟩]) (.skip)))
  (.seq (.reg false [⟨(some 29), .op (.mov (.t 6)), none⟩,
    ⟨(some 4), .op (.mov (.t 29)), none⟩,
    ⟨(some 5), .op (.mov (.c (.b true))), none⟩])
  (.ret)))))⟩
end Go.Proofs.Ytpggfccbfplphaa.Ir
