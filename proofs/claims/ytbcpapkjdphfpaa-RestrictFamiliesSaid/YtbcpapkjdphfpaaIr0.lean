/- The code of functions of this seat, as the abstract machine has it, part 0. No condition: 'Ok0' shows that it is the program's. -/
import Derived.Test.YtbcpapkjdphfpaaCore2
namespace Go.Proofs.Ytbcpapkjdphfpaa.Ir
open Go.Ab
-- gosem.cut.init
def i2 : IFn := ⟨[],
  .reg false [⟨(some 0), .callF 1 [], none⟩]⟩
-- vestibule/vestibulelaw18.RestrictKeys
def i3 : IFn := ⟨[.tmp 2],
  .seq (.reg false [⟨(some 2), .op (.mov (.c (.b false))), none⟩])
  (.seq (.reg false [⟨(some 3), .op (.mov (.t 0)), none⟩,
    ⟨(some 4), .op (.len true (.t 3)), none⟩,
    ⟨(some 5), .op (.bin .gtr (.t 4) (.c (.i .i64 200))), none⟩,
    ⟨(some 6), .op (.mov (.t 5)), none⟩,
    ⟨(some 7), .op (.mov (.t 0)), (some (6, false))⟩,
    ⟨(some 8), .callF 7 [(.t 7)], (some (6, false))⟩,
    ⟨(some 9), .op (.mov (.t 0)), (some (6, false))⟩,
    ⟨(some 10), .callF 8 [(.t 9)], (some (6, false))⟩,
    ⟨(some 11), .op (.eqB false (.t 8) (.t 10)), (some (6, false))⟩,
    ⟨(some 12), .op (.mov (.t 11)), (some (6, false))⟩,
    ⟨(some 13), .callF 9 [], (some (12, true))⟩,
    ⟨(some 14), .op (.pick (.t 12) (.t 13) (.c (.b false))), (some (6, false))⟩,
    ⟨(some 15), .op (.pick (.t 6) (.c (.b true)) (.t 14)), none⟩,
    ⟨(some 2), .op (.mov (.t 15)), none⟩])
  (.ret))⟩
-- vestibule/vestibulelaw18.RestrictOwn
def i4 : IFn := ⟨[.tmp 4],
  .seq (.reg false [⟨(some 2), .op (.box (.t 0)), none⟩,
    ⟨(some 3), .op (.box (.t 1)), none⟩,
    ⟨(some 4), .op (.mov (.c (.b false))), none⟩])
  (.seq (.seq (.reg false [⟨(some 12), .op (.loadN 13 (.t 2)), none⟩,
    ⟨(some 13), .op (.loadN 5 (.t 3)), none⟩,
    ⟨(some 14), .callF 10 [(.t 12), (.t 13)], none⟩,
    ⟨(some 15), .op (.mov (.t 14)), none⟩,
    ⟨(some 16), .op (.loadN 13 (.t 2)), (some (15, false))⟩,
    ⟨(some 17), .callF 11 [(.t 16)], (some (15, false))⟩,
    ⟨(some 18), .op (.un .not (.t 17)), (some (15, false))⟩,
    ⟨(some 19), .op (.pick (.t 15) (.c (.b true)) (.t 18)), none⟩])
  (.cond (.t 19) (.seq (.reg false [⟨(some 20), .callF 9 [], none⟩,
    ⟨(some 4), .op (.mov (.t 20)), none⟩])
  (.ret)) (.skip)))
  (.seq (.reg true [⟨(some 22), .op (.loadN 13 (.t 2)), none⟩,
    ⟨(some 23), .callF 13 [(.t 22)], none⟩,
    ⟨(some 24), .op (.loadN 5 (.t 3)), none⟩,
    ⟨(some 25), .callF 12 [(.t 23), (.t 24)], none⟩,
    ⟨(some 21), .op (.mov (.t 25)), none⟩,
    ⟨(some 26), .op (.ext (.t 21) 0), none⟩,
    ⟨(some 27), .op (.ext (.t 21) 1), none⟩,
    ⟨(some 5), .op (.alloc [.nils, .i .u8 0, .nils, .i .u32 0, .i .u8 0, .nils, .nils, .i .u8 0, .i .u64 0, .b false, .b false, .b false, .b false]), none⟩,
    ⟨none, .op (.store 13 (.t 5) (.t 26)), none⟩,
    ⟨(some 6), .op (.mov (.t 27)), none⟩])
  (.seq (.seq (.reg false [⟨(some 28), .op (.loadN 13 (.t 5)), none⟩,
    ⟨(some 29), .callF 11 [(.t 28)], none⟩,
    ⟨(some 30), .op (.un .not (.t 29)), none⟩,
    ⟨(some 31), .op (.mov (.t 30)), none⟩,
    ⟨(some 32), .op (.fAddr 3 (.t 5)), (some (31, false))⟩,
    ⟨(some 33), .op (.load1 (.t 32)), (some (31, false))⟩,
    ⟨(some 34), .op (.fAddr 3 (.t 2)), (some (31, false))⟩,
    ⟨(some 35), .op (.load1 (.t 34)), (some (31, false))⟩,
    ⟨(some 36), .op (.bin .neq (.t 33) (.t 35)), (some (31, false))⟩,
    ⟨(some 37), .op (.pick (.t 31) (.c (.b true)) (.t 36)), none⟩,
    ⟨(some 38), .op (.mov (.t 37)), none⟩,
    ⟨(some 39), .op (.fAddr 1 (.t 5)), (some (38, false))⟩,
    ⟨(some 40), .op (.fAddr 0 (.t 39)), (some (38, false))⟩,
    ⟨(some 41), .op (.load1 (.t 40)), (some (38, false))⟩,
    ⟨(some 42), .op (.fAddr 1 (.t 2)), (some (38, false))⟩,
    ⟨(some 43), .op (.fAddr 0 (.t 42)), (some (38, false))⟩,
    ⟨(some 44), .op (.load1 (.t 43)), (some (38, false))⟩,
    ⟨(some 45), .op (.bin .neq (.t 41) (.t 44)), (some (38, false))⟩,
    ⟨(some 46), .op (.pick (.t 38) (.c (.b true)) (.t 45)), none⟩,
    ⟨(some 47), .op (.mov (.t 46)), none⟩,
    ⟨(some 48), .op (.fAddr 1 (.t 5)), (some (47, false))⟩,
    ⟨(some 49), .op (.fAddr 1 (.t 48)), (some (47, false))⟩,
    ⟨(some 50), .op (.load1 (.t 49)), (some (47, false))⟩,
    ⟨(some 51), .op (.len false (.t 50)), (some (47, false))⟩,
    ⟨(some 52), .op (.fAddr 1 (.t 2)), (some (47, false))⟩,
    ⟨(some 53), .op (.fAddr 1 (.t 52)), (some (47, false))⟩,
    ⟨(some 54), .op (.load1 (.t 53)), (some (47, false))⟩,
    ⟨(some 55), .op (.len false (.t 54)), (some (47, false))⟩,
    ⟨(some 56), .op (.bin .neq (.t 51) (.t 55)), (some (47, false))⟩,
    ⟨(some 57), .op (.pick (.t 47) (.c (.b true)) (.t 56)), none⟩,
    ⟨(some 58), .op (.mov (.t 57)), none⟩,
    ⟨(some 59), .op (.fAddr 4 (.t 5)), (some (58, false))⟩,
    ⟨(some 60), .op (.fAddr 0 (.t 59)), (some (58, false))⟩,
    ⟨(some 61), .op (.load1 (.t 60)), (some (58, false))⟩,
    ⟨(some 62), .op (.fAddr 4 (.t 2)), (some (58, false))⟩,
    ⟨(some 63), .op (.fAddr 0 (.t 62)), (some (58, false))⟩,
    ⟨(some 64), .op (.load1 (.t 63)), (some (58, false))⟩,
    ⟨(some 65), .op (.bin .neq (.t 61) (.t 64)), (some (58, false))⟩,
    ⟨(some 66), .op (.pick (.t 58) (.c (.b true)) (.t 65)), none⟩,
    ⟨(some 67), .op (.mov (.t 66)), none⟩,
    ⟨(some 68), .op (.fAddr 4 (.t 5)), (some (67, false))⟩,
    ⟨(some 69), .op (.fAddr 1 (.t 68)), (some (67, false))⟩,
    ⟨(some 70), .op (.load1 (.t 69)), (some (67, false))⟩,
    ⟨(some 71), .op (.len false (.t 70)), (some (67, false))⟩,
    ⟨(some 72), .op (.fAddr 4 (.t 2)), (some (67, false))⟩,
    ⟨(some 73), .op (.fAddr 1 (.t 72)), (some (67, false))⟩,
    ⟨(some 74), .op (.load1 (.t 73)), (some (67, false))⟩,
    ⟨(some 75), .op (.len false (.t 74)), (some (67, false))⟩,
    ⟨(some 76), .op (.bin .neq (.t 71) (.t 75)), (some (67, false))⟩,
    ⟨(some 77), .op (.pick (.t 67) (.c (.b true)) (.t 76)), none⟩])
  (.cond (.t 77) (.seq (.reg false [⟨(some 4), .op (.mov (.c (.b false))), none⟩])
  (.ret)) (.skip)))
  (.seq (.reg false [⟨(some 78), .op (.fAddr 0 (.t 2)), none⟩,
    ⟨(some 79), .op (.load1 (.t 78)), none⟩,
    ⟨(some 80), .op (.len false (.t 79)), none⟩,
    ⟨(some 81), .op (.fAddr 0 (.t 5)), none⟩,
    ⟨(some 82), .op (.load1 (.t 81)), none⟩,
    ⟨(some 83), .op (.len false (.t 82)), none⟩,
    ⟨(some 84), .op (.bin .eql (.t 80) (.t 83)), none⟩,
    ⟨(some 7), .op (.mov (.t 84)), none⟩])
  (.seq (.seq (.reg false [⟨(some 8), .op (.mov (.c (.i .i64 0))), none⟩])
  (.blk 0 (.loop (.seq (.seq (.reg false [⟨(some 85), .op (.mov (.t 8)), none⟩,
    ⟨(some 86), .op (.fAddr 0 (.t 2)), none⟩,
    ⟨(some 87), .op (.load1 (.t 86)), none⟩,
    ⟨(some 88), .op (.len false (.t 87)), none⟩,
    ⟨(some 89), .op (.bin .lss (.t 85) (.t 88)), none⟩,
    ⟨(some 90), .op (.mov (.t 89)), none⟩,
    ⟨(some 91), .op (.mov (.t 7)), (some (90, true))⟩,
    ⟨(some 92), .op (.pick (.t 90) (.t 91) (.c (.b false))), none⟩])
  (.cond (.t 92) (.skip) (.exit 0)))
  (.seq (.blk 1 (.reg true [⟨(some 95), .op (.fAddr 0 (.t 2)), none⟩,
    ⟨(some 96), .op (.load1 (.t 95)), none⟩,
    ⟨(some 97), .op (.mov (.t 8)), none⟩,
    ⟨(some 98), .op (.iAddrS 1 (.t 96) (.t 97)), none⟩,
    ⟨(some 99), .op (.load1 (.t 98)), none⟩,
    ⟨(some 100), .op (.fAddr 0 (.t 5)), none⟩,
    ⟨(some 101), .op (.load1 (.t 100)), none⟩,
    ⟨(some 102), .op (.mov (.t 8)), none⟩,
    ⟨(some 103), .op (.iAddrS 1 (.t 101) (.t 102)), none⟩,
    ⟨(some 104), .op (.load1 (.t 103)), none⟩,
    ⟨(some 105), .op (.bin .eql (.t 99) (.t 104)), none⟩,
    ⟨(some 7), .op (.mov (.t 105)), none⟩]))
  (.reg false [⟨(some 93), .op (.mov (.t 8)), none⟩,
    ⟨(some 94), .op (.bin .add (.t 93) (.c (.i .i64 1))), none⟩,
    ⟨(some 8), .op (.mov (.t 94)), none⟩]))))))
  (.seq (.reg false [⟨(some 106), .op (.fAddr 6 (.t 2)), none⟩,
    ⟨(some 107), .op (.load1 (.t 106)), none⟩,
    ⟨(some 108), .op (.len false (.t 107)), none⟩,
    ⟨(some 109), .op (.fAddr 6 (.t 5)), none⟩,
    ⟨(some 110), .op (.load1 (.t 109)), none⟩,
    ⟨(some 111), .op (.len false (.t 110)), none⟩,
    ⟨(some 112), .op (.bin .eql (.t 108) (.t 111)), none⟩,
    ⟨(some 113), .op (.mov (.t 112)), none⟩,
    ⟨(some 114), .op (.fAddr 7 (.t 2)), (some (113, true))⟩,
    ⟨(some 115), .op (.load1 (.t 114)), (some (113, true))⟩,
    ⟨(some 116), .op (.fAddr 7 (.t 5)), (some (113, true))⟩,
    ⟨(some 117), .op (.load1 (.t 116)), (some (113, true))⟩,
    ⟨(some 118), .op (.bin .eql (.t 115) (.t 117)), (some (113, true))⟩,
    ⟨(some 119), .op (.pick (.t 113) (.t 118) (.c (.b false))), none⟩,
    ⟨(some 9), .op (.mov (.t 119)), none⟩])
  (.seq (.seq (.reg false [⟨(some 10), .op (.mov (.c (.i .i64 0))), none⟩])
  (.blk 2 (.loop (.seq (.seq (.reg false [⟨(some 120), .op (.mov (.t 10)), none⟩,
    ⟨(some 121), .op (.fAddr 6 (.t 2)), none⟩,
    ⟨(some 122), .op (.load1 (.t 121)), none⟩,
    ⟨(some 123), .op (.len false (.t 122)), none⟩,
    ⟨(some 124), .op (.bin .lss (.t 120) (.t 123)), none⟩,
    ⟨(some 125), .op (.mov (.t 124)), none⟩,
    ⟨(some 126), .op (.mov (.t 9)), (some (125, true))⟩,
    ⟨(some 127), .op (.pick (.t 125) (.t 126) (.c (.b false))), none⟩])
  (.cond (.t 127) (.skip) (.exit 2)))
  (.seq (.blk 3 (.reg true [⟨(some 130), .op (.fAddr 6 (.t 2)), none⟩,
    ⟨(some 131), .op (.load1 (.t 130)), none⟩,
    ⟨(some 132), .op (.mov (.t 10)), none⟩,
    ⟨(some 133), .op (.iAddrS 1 (.t 131) (.t 132)), none⟩,
    ⟨(some 134), .op (.load1 (.t 133)), none⟩,
    ⟨(some 135), .op (.fAddr 6 (.t 5)), none⟩,
    ⟨(some 136), .op (.load1 (.t 135)), none⟩,
    ⟨(some 137), .op (.mov (.t 10)), none⟩,
    ⟨(some 138), .op (.iAddrS 1 (.t 136) (.t 137)), none⟩,
    ⟨(some 139), .op (.load1 (.t 138)), none⟩,
    ⟨(some 140), .op (.bin .eql (.t 134) (.t 139)), none⟩,
    ⟨(some 9), .op (.mov (.t 140)), none⟩]))
  (.reg false [⟨(some 128), .op (.mov (.t 10)), none⟩,
    ⟨(some 129), .op (.bin .add (.t 128) (.c (.i .i64 1))), none⟩,
    ⟨(some 10), .op (.mov (.t 129)), none⟩]))))))
  (.seq (.seq (.reg false [⟨(some 141), .op (.fAddr 3 (.t 3)), none⟩,
    ⟨(some 142), .op (.load1 (.t 141)), none⟩,
    ⟨(some 143), .op (.bin .neq (.t 142) (.c (.s [83, 121, 115, 116, 101, 109, 67, 97, 108, 108, 65, 114, 99, 104, 105, 116, 101, 99, 116, 117, 114, 101, 115]))), none⟩,
    ⟨(some 144), .op (.mov (.t 143)), none⟩,
    ⟨(some 145), .op (.mov (.t 7)), (some (144, true))⟩,
    ⟨(some 146), .op (.un .not (.t 145)), (some (144, true))⟩,
    ⟨(some 147), .op (.pick (.t 144) (.t 146) (.c (.b false))), none⟩,
    ⟨(some 148), .op (.mov (.t 147)), none⟩,
    ⟨(some 149), .op (.fAddr 3 (.t 3)), (some (148, false))⟩,
    ⟨(some 150), .op (.load1 (.t 149)), (some (148, false))⟩,
    ⟨(some 151), .op (.bin .neq (.t 150) (.c (.s [82, 101, 115, 116, 114, 105, 99, 116, 65, 100, 100, 114, 101, 115, 115, 70, 97, 109, 105, 108, 105, 101, 115]))), (some (148, false))⟩,
    ⟨(some 152), .op (.mov (.t 151)), (some (148, false))⟩,
    ⟨(some 153), .op (.mov (.t 9)), (some (152, true))⟩,
    ⟨(some 154), .op (.un .not (.t 153)), (some (152, true))⟩,
    ⟨(some 155), .op (.pick (.t 152) (.t 154) (.c (.b false))), (some (148, false))⟩,
    ⟨(some 156), .op (.pick (.t 148) (.c (.b true)) (.t 155)), none⟩,
    ⟨(some 157), .op (.mov (.t 156)), none⟩,
    ⟨(some 158), .op (.fAddr 3 (.t 3)), (some (157, false))⟩,
    ⟨(some 159), .op (.load1 (.t 158)), (some (157, false))⟩,
    ⟨(some 160), .op (.bin .neq (.t 159) (.c (.s [82, 101, 115, 116, 114, 105, 99, 116, 78, 97, 109, 101, 115, 112, 97, 99, 101, 115]))), (some (157, false))⟩,
    ⟨(some 161), .op (.mov (.t 160)), (some (157, false))⟩,
    ⟨(some 162), .op (.fAddr 8 (.t 2)), (some (161, true))⟩,
    ⟨(some 163), .op (.load1 (.t 162)), (some (161, true))⟩,
    ⟨(some 164), .op (.fAddr 8 (.t 5)), (some (161, true))⟩,
    ⟨(some 165), .op (.load1 (.t 164)), (some (161, true))⟩,
    ⟨(some 166), .op (.bin .neq (.t 163) (.t 165)), (some (161, true))⟩,
    ⟨(some 167), .op (.pick (.t 161) (.t 166) (.c (.b false))), (some (157, false))⟩,
    ⟨(some 168), .op (.pick (.t 157) (.c (.b true)) (.t 167)), none⟩,
    ⟨(some 169), .op (.mov (.t 168)), none⟩,
    ⟨(some 170), .op (.fAddr 3 (.t 3)), (some (169, false))⟩,
    ⟨(some 171), .op (.load1 (.t 170)), (some (169, false))⟩,
    ⟨(some 172), .op (.bin .neq (.t 171) (.c (.s [77, 101, 109, 111, 114, 121, 68, 101, 110, 121, 87, 114, 105, 116, 101, 69, 120, 101, 99, 117, 116, 101]))), (some (169, false))⟩,
    ⟨(some 173), .op (.mov (.t 172)), (some (169, false))⟩,
    ⟨(some 174), .op (.fAddr 9 (.t 2)), (some (173, true))⟩,
    ⟨(some 175), .op (.load1 (.t 174)), (some (173, true))⟩,
    ⟨(some 176), .op (.fAddr 9 (.t 5)), (some (173, true))⟩,
    ⟨(some 177), .op (.load1 (.t 176)), (some (173, true))⟩,
    ⟨(some 178), .op (.eqB true (.t 175) (.t 177)), (some (173, true))⟩,
    ⟨(some 179), .op (.pick (.t 173) (.t 178) (.c (.b false))), (some (169, false))⟩,
    ⟨(some 180), .op (.pick (.t 169) (.c (.b true)) (.t 179)), none⟩,
    ⟨(some 181), .op (.mov (.t 180)), none⟩,
    ⟨(some 182), .op (.fAddr 3 (.t 3)), (some (181, false))⟩,
    ⟨(some 183), .op (.load1 (.t 182)), (some (181, false))⟩,
    ⟨(some 184), .op (.bin .neq (.t 183) (.c (.s [76, 111, 99, 107, 80, 101, 114, 115, 111, 110, 97, 108, 105, 116, 121]))), (some (181, false))⟩,
    ⟨(some 185), .op (.mov (.t 184)), (some (181, false))⟩,
    ⟨(some 186), .op (.fAddr 10 (.t 2)), (some (185, true))⟩,
    ⟨(some 187), .op (.load1 (.t 186)), (some (185, true))⟩,
    ⟨(some 188), .op (.fAddr 10 (.t 5)), (some (185, true))⟩,
    ⟨(some 189), .op (.load1 (.t 188)), (some (185, true))⟩,
    ⟨(some 190), .op (.eqB true (.t 187) (.t 189)), (some (185, true))⟩,
    ⟨(some 191), .op (.pick (.t 185) (.t 190) (.c (.b false))), (some (181, false))⟩,
    ⟨(some 192), .op (.pick (.t 181) (.c (.b true)) (.t 191)), none⟩,
    ⟨(some 193), .op (.mov (.t 192)), none⟩,
    ⟨(some 194), .op (.fAddr 3 (.t 3)), (some (193, false))⟩,
    ⟨(some 195), .op (.load1 (.t 194)), (some (193, false))⟩,
    ⟨(some 196), .op (.bin .neq (.t 195) (.c (.s [82, 101, 115, 116, 114, 105, 99, 116, 82, 101, 97, 108, 116, 105, 109, 101]))), (some (193, false))⟩,
    ⟨(some 197), .op (.mov (.t 196)), (some (193, false))⟩,
    ⟨(some 198), .op (.fAddr 11 (.t 2)), (some (197, true))⟩,
    ⟨(some 199), .op (.load1 (.t 198)), (some (197, true))⟩,
    ⟨(some 200), .op (.fAddr 11 (.t 5)), (some (197, true))⟩,
    ⟨(some 201), .op (.load1 (.t 200)), (some (197, true))⟩,
    ⟨(some 202), .op (.eqB true (.t 199) (.t 201)), (some (197, true))⟩,
    ⟨(some 203), .op (.pick (.t 197) (.t 202) (.c (.b false))), (some (193, false))⟩,
    ⟨(some 204), .op (.pick (.t 193) (.c (.b true)) (.t 203)), none⟩,
    ⟨(some 205), .op (.mov (.t 204)), none⟩,
    ⟨(some 206), .op (.fAddr 3 (.t 3)), (some (205, false))⟩,
    ⟨(some 207), .op (.load1 (.t 206)), (some (205, false))⟩,
    ⟨(some 208), .op (.bin .neq (.t 207) (.c (.s [78, 111, 78, 101, 119, 80, 114, 105, 118, 105, 108, 101, 103, 101, 115]))), (some (205, false))⟩,
    ⟨(some 209), .op (.mov (.t 208)), (some (205, false))⟩,
    ⟨(some 210), .op (.fAddr 12 (.t 2)), (some (209, true))⟩,
    ⟨(some 211), .op (.load1 (.t 210)), (some (209, true))⟩,
    ⟨(some 212), .op (.fAddr 12 (.t 5)), (some (209, true))⟩,
    ⟨(some 213), .op (.load1 (.t 212)), (some (209, true))⟩,
    ⟨(some 214), .op (.eqB true (.t 211) (.t 213)), (some (209, true))⟩,
    ⟨(some 215), .op (.pick (.t 209) (.t 214) (.c (.b false))), (some (205, false))⟩,
    ⟨(some 216), .op (.pick (.t 205) (.c (.b true)) (.t 215)), none⟩])
  (.cond (.t 216) (.seq (.reg false [⟨(some 4), .op (.mov (.c (.b false))), none⟩])
  (.ret)) (.skip)))
  (.seq (.seq (.reg false [⟨(some 11), .op (.mov (.c (.i .i64 0))), none⟩])
  (.blk 4 (.loop (.seq (.seq (.reg false [⟨(some 217), .op (.mov (.t 11)), none⟩,
    ⟨(some 218), .op (.mov (.t 6)), none⟩,
    ⟨(some 219), .op (.len false (.t 218)), none⟩,
    ⟨(some 220), .op (.bin .lss (.t 217) (.t 219)), none⟩])
  (.cond (.t 220) (.skip) (.exit 4)))
  (.seq (.blk 5 (.seq (.reg true [⟨(some 223), .op (.mov (.t 6)), none⟩,
    ⟨(some 224), .op (.mov (.t 11)), none⟩,
    ⟨(some 225), .op (.iAddrS 4 (.t 223) (.t 224)), none⟩,
    ⟨(some 226), .op (.fAddr 0 (.t 225)), none⟩,
    ⟨(some 227), .op (.load1 (.t 226)), none⟩,
    ⟨(some 228), .op (.fAddr 0 (.t 3)), none⟩,
    ⟨(some 229), .op (.load1 (.t 228)), none⟩,
    ⟨(some 230), .op (.bin .neq (.t 227) (.t 229)), none⟩,
    ⟨(some 231), .op (.mov (.t 230)), none⟩,
    ⟨(some 232), .op (.mov (.t 6)), (some (231, false))⟩,
    ⟨(some 233), .op (.mov (.t 11)), (some (231, false))⟩,
    ⟨(some 234), .op (.iAddrS 4 (.t 232) (.t 233)), (some (231, false))⟩,
    ⟨(some 235), .op (.fAddr 1 (.t 234)), (some (231, false))⟩,
    ⟨(some 236), .op (.load1 (.t 235)), (some (231, false))⟩,
    ⟨(some 237), .op (.fAddr 1 (.t 3)), (some (231, false))⟩,
    ⟨(some 238), .op (.load1 (.t 237)), (some (231, false))⟩,
    ⟨(some 239), .op (.bin .neq (.t 236) (.t 238)), (some (231, false))⟩,
    ⟨(some 240), .op (.pick (.t 231) (.c (.b true)) (.t 239)), none⟩,
    ⟨(some 241), .op (.mov (.t 240)), none⟩,
    ⟨(some 242), .op (.mov (.t 6)), (some (241, false))⟩,
    ⟨(some 243), .op (.mov (.t 11)), (some (241, false))⟩,
    ⟨(some 244), .op (.iAddrS 4 (.t 242) (.t 243)), (some (241, false))⟩,
    ⟨(some 245), .op (.fAddr 2 (.t 244)), (some (241, false))⟩,
    ⟨(some 246), .op (.load1 (.t 245)), (some (241, false))⟩,
    ⟨(some 247), .op (.bin .eql (.t 246) (.c (.i .i64 0))), (some (241, false))⟩,
    ⟨(some 248), .op (.pick (.t 241) (.c (.b true)) (.t 247)), none⟩])
  (.cond (.t 248) (.seq (.reg false [⟨(some 4), .op (.mov (.c (.b false))), none⟩])
  (.ret)) (.skip))))
  (.reg false [⟨(some 221), .op (.mov (.t 11)), none⟩,
    ⟨(some 222), .op (.bin .add (.t 221) (.c (.i .i64 1))), none⟩,
    ⟨(some 11), .op (.mov (.t 222)), none⟩]))))))
  (.seq (.reg false [⟨(some 249), .op (.fAddr 3 (.t 3)), none⟩,
    ⟨(some 250), .op (.load1 (.t 249)), none⟩,
    ⟨(some 251), .callF 7 [(.t 250)], none⟩,
    ⟨(some 252), .op (.mov (.t 251)), none⟩,
    ⟨(some 253), .op (.mov (.t 6)), (some (252, false))⟩,
    ⟨(some 254), .op (.len false (.t 253)), (some (252, false))⟩,
    ⟨(some 255), .op (.bin .eql (.t 254) (.c (.i .i64 0))), (some (252, false))⟩,
    ⟨(some 256), .op (.pick (.t 252) (.c (.b true)) (.t 255)), none⟩,
    ⟨(some 257), .op (.mov (.t 256)), none⟩,
    ⟨(some 258), .callF 9 [], (some (257, true))⟩,
    ⟨(some 259), .op (.pick (.t 257) (.t 258) (.c (.b false))), none⟩,
    ⟨(some 4), .op (.mov (.t 259)), none⟩])
  (.ret)))))))))))⟩
-- vestibule/vestibulelaw18.RestrictSpaces
def i5 : IFn := ⟨[.tmp 2],
  .seq (.reg false [⟨(some 2), .op (.mov (.c (.b false))), none⟩])
  (.seq (.seq (.reg false [⟨(some 11), .op (.mov (.t 0)), none⟩,
    ⟨(some 12), .op (.len true (.t 11)), none⟩,
    ⟨(some 13), .op (.bin .gtr (.t 12) (.c (.i .i64 300))), none⟩,
    ⟨(some 14), .op (.mov (.t 13)), none⟩,
    ⟨(some 15), .op (.mov (.t 0)), (some (14, false))⟩,
    ⟨(some 16), .callF 14 [(.t 15)], (some (14, false))⟩,
    ⟨(some 17), .op (.len false (.t 16)), (some (14, false))⟩,
    ⟨(some 18), .op (.bin .eql (.t 17) (.c (.i .i64 0))), (some (14, false))⟩,
    ⟨(some 19), .op (.pick (.t 14) (.c (.b true)) (.t 18)), none⟩])
  (.cond (.t 19) (.seq (.reg false [⟨(some 20), .callF 9 [], none⟩,
    ⟨(some 2), .op (.mov (.t 20)), none⟩])
  (.ret)) (.skip)))
  (.seq (.reg false [⟨(some 22), .op (.mov (.t 0)), none⟩,
    ⟨(some 23), .callF 15 [(.t 22)], none⟩,
    ⟨(some 21), .op (.mov (.t 23)), none⟩,
    ⟨(some 24), .op (.ext (.t 21) 0), none⟩,
    ⟨(some 25), .op (.ext (.t 21) 1), none⟩,
    ⟨(some 3), .op (.mov (.t 24)), none⟩,
    ⟨(some 4), .op (.mov (.t 25)), none⟩])
  (.seq (.reg false [⟨(some 27), .op (.mov (.t 0)), none⟩,
    ⟨(some 28), .callF 16 [(.t 27)], none⟩,
    ⟨(some 26), .op (.mov (.t 28)), none⟩,
    ⟨(some 29), .op (.ext (.t 26) 0), none⟩,
    ⟨(some 30), .op (.ext (.t 26) 1), none⟩,
    ⟨(some 5), .op (.mov (.t 29)), none⟩,
    ⟨(some 6), .op (.mov (.t 30)), none⟩])
  (.seq (.reg false [⟨(some 32), .op (.mov (.t 0)), none⟩,
    ⟨(some 33), .op (.buildS 1 [.s []] [(0, 1, (.t 32))]), none⟩,
    ⟨(some 34), .callF 17 [(.c (.s [82, 101, 115, 116, 114, 105, 99, 116, 78, 97, 109, 101, 115, 112, 97, 99, 101, 115])), (.t 33)], none⟩,
    ⟨(some 31), .op (.mov (.t 34)), none⟩,
    ⟨(some 35), .op (.ext (.t 31) 0), none⟩,
    ⟨(some 36), .op (.ext (.t 31) 1), none⟩,
    ⟨(some 7), .op (.alloc [.nils, .i .u8 0, .nils, .i .u32 0, .i .u8 0, .nils, .nils, .i .u8 0, .i .u64 0, .b false, .b false, .b false, .b false]), none⟩,
    ⟨none, .op (.store 13 (.t 7) (.t 35)), none⟩,
    ⟨(some 8), .op (.mov (.t 36)), none⟩])
  (.seq (.reg false [⟨(some 38), .op (.mov (.t 0)), none⟩,
    ⟨(some 39), .op (.bin .add (.c (.s [126])) (.t 38)), none⟩,
    ⟨(some 40), .op (.buildS 1 [.s []] [(0, 1, (.t 39))]), none⟩,
    ⟨(some 41), .callF 17 [(.c (.s [82, 101, 115, 116, 114, 105, 99, 116, 78, 97, 109, 101, 115, 112, 97, 99, 101, 115])), (.t 40)], none⟩,
    ⟨(some 37), .op (.mov (.t 41)), none⟩,
    ⟨(some 42), .op (.ext (.t 37) 0), none⟩,
    ⟨(some 43), .op (.ext (.t 37) 1), none⟩,
    ⟨(some 9), .op (.alloc [.nils, .i .u8 0, .nils, .i .u32 0, .i .u8 0, .nils, .nils, .i .u8 0, .i .u64 0, .b false, .b false, .b false, .b false]), none⟩,
    ⟨none, .op (.store 13 (.t 9) (.t 42)), none⟩,
    ⟨(some 10), .op (.mov (.t 43)), none⟩])
  (.seq (.seq (.reg false [⟨(some 44), .op (.mov (.t 4)), none⟩,
    ⟨(some 45), .op (.bin .eql (.t 44) (.c (.i .i64 0))), none⟩,
    ⟨(some 46), .op (.mov (.t 45)), none⟩,
    ⟨(some 47), .op (.mov (.t 6)), (some (46, false))⟩,
    ⟨(some 48), .op (.pick (.t 46) (.c (.b true)) (.t 47)), none⟩])
  (.cond (.t 48) (.seq (.reg false [⟨(some 49), .callF 9 [], none⟩,
    ⟨(some 2), .op (.mov (.t 49)), none⟩])
  (.ret)) (.skip)))
  (.seq (.seq (.reg false [⟨(some 50), .op (.mov (.t 8)), none⟩,
    ⟨(some 51), .op (.mov (.t 10)), none⟩,
    ⟨(some 52), .op (.bin .neq (.t 50) (.t 51)), none⟩])
  (.cond (.t 52) (.seq (.reg false [⟨(some 2), .op (.mov (.c (.b false))), none⟩])
  (.ret)) (.skip)))
  (.seq (.seq (.reg false [⟨(some 53), .op (.mov (.t 8)), none⟩,
    ⟨(some 54), .op (.bin .gtr (.t 53) (.c (.i .i64 0))), none⟩])
  (.cond (.t 54) (.seq (.reg false [⟨(some 55), .op (.fAddr 8 (.t 7)), none⟩,
    ⟨(some 56), .op (.load1 (.t 55)), none⟩,
    ⟨(some 57), .op (.bin .eql (.t 56) (.c (.i .u64 0))), none⟩,
    ⟨(some 58), .op (.mov (.t 57)), none⟩,
    ⟨(some 59), .op (.fAddr 8 (.t 9)), (some (58, true))⟩,
    ⟨(some 60), .op (.load1 (.t 59)), (some (58, true))⟩,
    ⟨(some 61), .op (.bin .eql (.t 60) (.c (.i .u64 0))), (some (58, true))⟩,
    ⟨(some 62), .op (.pick (.t 58) (.t 61) (.c (.b false))), none⟩,
    ⟨(some 63), .op (.mov (.t 62)), none⟩,
    ⟨(some 64), .callF 9 [], (some (63, true))⟩,
    ⟨(some 65), .op (.pick (.t 63) (.t 64) (.c (.b false))), none⟩,
    ⟨(some 2), .op (.mov (.t 65)), none⟩])
  (.ret)) (.skip)))
  (.seq (.reg true [⟨(some 66), .op (.fAddr 8 (.t 7)), none⟩,
    ⟨(some 67), .op (.load1 (.t 66)), none⟩,
    ⟨(some 68), .op (.fAddr 8 (.t 9)), none⟩,
    ⟨(some 69), .op (.load1 (.t 68)), none⟩,
    ⟨(some 70), .op (.bin .or (.t 67) (.t 69)), none⟩,
    ⟨(some 71), .callF 18 [], none⟩,
    ⟨(some 72), .op (.bin .eql (.t 70) (.t 71)), none⟩,
    ⟨(some 73), .op (.mov (.t 72)), none⟩,
    ⟨(some 74), .op (.fAddr 8 (.t 7)), (some (73, true))⟩,
    ⟨(some 75), .op (.load1 (.t 74)), (some (73, true))⟩,
    ⟨(some 76), .op (.fAddr 8 (.t 9)), (some (73, true))⟩,
    ⟨(some 77), .op (.load1 (.t 76)), (some (73, true))⟩,
    ⟨(some 78), .op (.bin .and (.t 75) (.t 77)), (some (73, true))⟩,
    ⟨(some 79), .op (.bin .eql (.t 78) (.c (.i .u64 0))), (some (73, true))⟩,
    ⟨(some 80), .op (.pick (.t 73) (.t 79) (.c (.b false))), none⟩,
    ⟨(some 81), .op (.mov (.t 80)), none⟩,
    ⟨(some 82), .callF 19 [(.c (.s [121, 101, 115]))], (some (81, true))⟩,
    ⟨(some 83), .callF 18 [], (some (81, true))⟩,
    ⟨(some 84), .op (.bin .eql (.t 82) (.t 83)), (some (81, true))⟩,
    ⟨(some 85), .op (.pick (.t 81) (.t 84) (.c (.b false))), none⟩,
    ⟨(some 86), .op (.mov (.t 85)), none⟩,
    ⟨(some 87), .callF 9 [], (some (86, true))⟩,
    ⟨(some 88), .op (.pick (.t 86) (.t 87) (.c (.b false))), none⟩,
    ⟨(some 2), .op (.mov (.t 88)), none⟩])
  (.ret))))))))))⟩
-- vestibule/vestibulelaw18.RestrictFamilies
def i6 : IFn := ⟨[.tmp 4],
  .seq (.reg false [⟨(some 4), .op (.mov (.c (.b false))), none⟩])
  (.seq (.reg false [⟨(some 17), .op (.buildS 8 [.i .u32 0] [(0, 1, (.c (.i .u32 1))), (1, 1, (.c (.i .u32 2))), (2, 1, (.c (.i .u32 10))), (3, 1, (.c (.i .u32 16))), (4, 1, (.c (.i .u32 17))), (5, 1, (.c (.i .u32 31))), (6, 1, (.c (.i .u32 38))), (7, 1, (.c (.i .u32 40)))]), none⟩,
    ⟨(some 18), .op (.mov (.t 0)), none⟩,
    ⟨(some 19), .op (.bin .rem (.t 18) (.c (.i .u32 8))), none⟩,
    ⟨(some 20), .op (.iAddrS 1 (.t 17) (.t 19)), none⟩,
    ⟨(some 21), .op (.load1 (.t 20)), none⟩,
    ⟨(some 0), .op (.mov (.t 21)), none⟩])
  (.seq (.reg false [⟨(some 22), .op (.mov (.t 0)), none⟩,
    ⟨(some 23), .callF 20 [(.t 22)], none⟩,
    ⟨(some 5), .op (.mov (.t 23)), none⟩])
  (.seq (.seq (.reg false [⟨(some 24), .op (.mov (.t 5)), none⟩,
    ⟨(some 25), .op (.bin .eql (.t 24) (.c (.s []))), none⟩])
  (.cond (.t 25) (.seq (.reg false [⟨(some 4), .op (.mov (.c (.b false))), none⟩])
  (.ret)) (.skip)))
  (.seq (.reg false [⟨(some 26), .op (.mov (.t 5)), none⟩,
    ⟨(some 27), .op (.mov (.t 5)), none⟩,
    ⟨(some 28), .op (.bin .add (.c (.s [126])) (.t 27)), none⟩,
    ⟨(some 6), .op (.mov (.t 26)), none⟩,
    ⟨(some 7), .op (.mov (.t 28)), none⟩])
  (.seq (.reg false [⟨(some 8), .op (.mov (.c (.i .u8 1))), none⟩])
  (.seq (.seq (.reg false [⟨(some 29), .op (.mov (.t 1)), none⟩])
  (.cond (.t 29) (.seq (.reg false [⟨(some 30), .op (.mov (.t 7)), none⟩,
    ⟨(some 31), .op (.mov (.t 6)), none⟩,
    ⟨(some 6), .op (.mov (.t 30)), none⟩,
    ⟨(some 7), .op (.mov (.t 31)), none⟩])
  (.reg false [⟨(some 8), .op (.mov (.c (.i .u8 2))), none⟩])) (.skip)))
  (.seq (.reg false [⟨(some 33), .op (.mov (.t 6)), none⟩,
    ⟨(some 34), .op (.buildS 1 [.s []] [(0, 1, (.t 33))]), none⟩,
    ⟨(some 35), .callF 17 [(.c (.s [82, 101, 115, 116, 114, 105, 99, 116, 65, 100, 100, 114, 101, 115, 115, 70, 97, 109, 105, 108, 105, 101, 115])), (.t 34)], none⟩,
    ⟨(some 32), .op (.mov (.t 35)), none⟩,
    ⟨(some 36), .op (.ext (.t 32) 0), none⟩,
    ⟨(some 37), .op (.ext (.t 32) 1), none⟩,
    ⟨(some 9), .op (.alloc [.nils, .i .u8 0, .nils, .i .u32 0, .i .u8 0, .nils, .nils, .i .u8 0, .i .u64 0, .b false, .b false, .b false, .b false]), none⟩,
    ⟨none, .op (.store 13 (.t 9) (.t 36)), none⟩,
    ⟨(some 10), .op (.mov (.t 37)), none⟩])
  (.seq (.reg false [⟨(some 39), .op (.mov (.t 6)), none⟩,
    ⟨(some 40), .op (.mov (.t 7)), none⟩,
    ⟨(some 41), .op (.buildS 2 [.s []] [(0, 1, (.t 39)), (1, 1, (.t 40))]), none⟩,
    ⟨(some 42), .callF 17 [(.c (.s [82, 101, 115, 116, 114, 105, 99, 116, 65, 100, 100, 114, 101, 115, 115, 70, 97, 109, 105, 108, 105, 101, 115])), (.t 41)], none⟩,
    ⟨(some 38), .op (.mov (.t 42)), none⟩,
    ⟨(some 43), .op (.ext (.t 38) 0), none⟩,
    ⟨(some 44), .op (.ext (.t 38) 1), none⟩,
    ⟨(some 11), .op (.alloc [.nils, .i .u8 0, .nils, .i .u32 0, .i .u8 0, .nils, .nils, .i .u8 0, .i .u64 0, .b false, .b false, .b false, .b false]), none⟩,
    ⟨none, .op (.store 13 (.t 11) (.t 43)), none⟩,
    ⟨(some 12), .op (.mov (.t 44)), none⟩])
  (.seq (.reg false [⟨(some 46), .op (.mov (.t 6)), none⟩,
    ⟨(some 47), .op (.mov (.t 7)), none⟩,
    ⟨(some 48), .op (.mov (.t 6)), none⟩,
    ⟨(some 49), .op (.buildS 3 [.s []] [(0, 1, (.t 46)), (1, 1, (.t 47)), (2, 1, (.t 48))]), none⟩,
    ⟨(some 50), .callF 17 [(.c (.s [82, 101, 115, 116, 114, 105, 99, 116, 65, 100, 100, 114, 101, 115, 115, 70, 97, 109, 105, 108, 105, 101, 115])), (.t 49)], none⟩,
    ⟨(some 45), .op (.mov (.t 50)), none⟩,
    ⟨(some 51), .op (.ext (.t 45) 0), none⟩,
    ⟨(some 52), .op (.ext (.t 45) 1), none⟩,
    ⟨(some 13), .op (.alloc [.nils, .i .u8 0, .nils, .i .u32 0, .i .u8 0, .nils, .nils, .i .u8 0, .i .u64 0, .b false, .b false, .b false, .b false]), none⟩,
    ⟨none, .op (.store 13 (.t 13) (.t 51)), none⟩,
    ⟨(some 14), .op (.mov (.t 52)), none⟩])
  (.seq (.reg false [⟨(some 54), .op (.mov (.t 6)), none⟩,
    ⟨(some 55), .op (.buildS 2 [.s []] [(0, 1, (.t 54)), (1, 1, (.c (.s [])))]), none⟩,
    ⟨(some 56), .callF 17 [(.c (.s [82, 101, 115, 116, 114, 105, 99, 116, 65, 100, 100, 114, 101, 115, 115, 70, 97, 109, 105, 108, 105, 101, 115])), (.t 55)], none⟩,
    ⟨(some 53), .op (.mov (.t 56)), none⟩,
    ⟨(some 57), .op (.ext (.t 53) 0), none⟩,
    ⟨(some 58), .op (.ext (.t 53) 1), none⟩,
    ⟨(some 15), .op (.alloc [.nils, .i .u8 0, .nils, .i .u32 0, .i .u8 0, .nils, .nils, .i .u8 0, .i .u64 0, .b false, .b false, .b false, .b false]), none⟩,
    ⟨none, .op (.store 13 (.t 15) (.t 57)), none⟩,
    ⟨(some 16), .op (.mov (.t 58)), none⟩])
  (.seq (.seq (.reg false [⟨(some 59), .op (.mov (.t 10)), none⟩,
    ⟨(some 60), .op (.mov (.t 12)), none⟩,
    ⟨(some 61), .op (.bin .add (.t 59) (.t 60)), none⟩,
    ⟨(some 62), .op (.mov (.t 14)), none⟩,
    ⟨(some 63), .op (.bin .add (.t 61) (.t 62)), none⟩,
    ⟨(some 64), .op (.mov (.t 16)), none⟩,
    ⟨(some 65), .op (.bin .add (.t 63) (.t 64)), none⟩,
    ⟨(some 66), .op (.bin .neq (.t 65) (.c (.i .i64 0))), none⟩,
    ⟨(some 67), .op (.mov (.t 66)), none⟩,
    ⟨(some 68), .op (.fAddr 7 (.t 9)), (some (67, false))⟩,
    ⟨(some 69), .op (.load1 (.t 68)), (some (67, false))⟩,
    ⟨(some 70), .op (.mov (.t 8)), (some (67, false))⟩,
    ⟨(some 71), .op (.bin .neq (.t 69) (.t 70)), (some (67, false))⟩,
    ⟨(some 72), .op (.pick (.t 67) (.c (.b true)) (.t 71)), none⟩,
    ⟨(some 73), .op (.mov (.t 72)), none⟩,
    ⟨(some 74), .op (.fAddr 7 (.t 11)), (some (73, false))⟩,
    ⟨(some 75), .op (.load1 (.t 74)), (some (73, false))⟩,
    ⟨(some 76), .op (.mov (.t 8)), (some (73, false))⟩,
    ⟨(some 77), .op (.bin .neq (.t 75) (.t 76)), (some (73, false))⟩,
    ⟨(some 78), .op (.pick (.t 73) (.c (.b true)) (.t 77)), none⟩,
    ⟨(some 79), .op (.mov (.t 78)), none⟩,
    ⟨(some 80), .op (.fAddr 7 (.t 13)), (some (79, false))⟩,
    ⟨(some 81), .op (.load1 (.t 80)), (some (79, false))⟩,
    ⟨(some 82), .op (.mov (.t 8)), (some (79, false))⟩,
    ⟨(some 83), .op (.bin .neq (.t 81) (.t 82)), (some (79, false))⟩,
    ⟨(some 84), .op (.pick (.t 79) (.c (.b true)) (.t 83)), none⟩,
    ⟨(some 85), .op (.mov (.t 84)), none⟩,
    ⟨(some 86), .op (.fAddr 7 (.t 15)), (some (85, false))⟩,
    ⟨(some 87), .op (.load1 (.t 86)), (some (85, false))⟩,
    ⟨(some 88), .op (.bin .neq (.t 87) (.c (.i .u8 0))), (some (85, false))⟩,
    ⟨(some 89), .op (.pick (.t 85) (.c (.b true)) (.t 88)), none⟩])
  (.cond (.t 89) (.seq (.reg false [⟨(some 4), .op (.mov (.c (.b false))), none⟩])
  (.ret)) (.skip)))
  (.seq (.reg false [⟨(some 90), .op (.fAddr 6 (.t 9)), none⟩,
    ⟨(some 91), .op (.load1 (.t 90)), none⟩,
    ⟨(some 92), .op (.len false (.t 91)), none⟩,
    ⟨(some 93), .op (.bin .eql (.t 92) (.c (.i .i64 1))), none⟩,
    ⟨(some 94), .op (.mov (.t 93)), none⟩,
    ⟨(some 95), .op (.fAddr 6 (.t 9)), (some (94, true))⟩,
    ⟨(some 96), .op (.load1 (.t 95)), (some (94, true))⟩,
    ⟨(some 97), .op (.iAddrS 1 (.t 96) (.c (.i .i64 0))), (some (94, true))⟩,
    ⟨(some 98), .op (.load1 (.t 97)), (some (94, true))⟩,
    ⟨(some 99), .op (.mov (.t 0)), (some (94, true))⟩,
    ⟨(some 100), .op (.bin .eql (.t 98) (.t 99)), (some (94, true))⟩,
    ⟨(some 101), .op (.pick (.t 94) (.t 100) (.c (.b false))), none⟩,
    ⟨(some 102), .op (.mov (.t 101)), none⟩,
    ⟨(some 103), .op (.fAddr 6 (.t 11)), (some (102, true))⟩,
    ⟨(some 104), .op (.load1 (.t 103)), (some (102, true))⟩,
    ⟨(some 105), .op (.len false (.t 104)), (some (102, true))⟩,
    ⟨(some 106), .op (.bin .eql (.t 105) (.c (.i .i64 0))), (some (102, true))⟩,
    ⟨(some 107), .op (.pick (.t 102) (.t 106) (.c (.b false))), none⟩,
    ⟨(some 108), .op (.mov (.t 107)), none⟩,
    ⟨(some 109), .op (.fAddr 6 (.t 13)), (some (108, true))⟩,
    ⟨(some 110), .op (.load1 (.t 109)), (some (108, true))⟩,
    ⟨(some 111), .op (.len false (.t 110)), (some (108, true))⟩,
    ⟨(some 112), .op (.bin .eql (.t 111) (.c (.i .i64 1))), (some (108, true))⟩,
    ⟨(some 113), .op (.pick (.t 108) (.t 112) (.c (.b false))), none⟩,
    ⟨(some 114), .op (.mov (.t 113)), none⟩,
    ⟨(some 115), .op (.fAddr 6 (.t 15)), (some (114, true))⟩,
    ⟨(some 116), .op (.load1 (.t 115)), (some (114, true))⟩,
    ⟨(some 117), .op (.len false (.t 116)), (some (114, true))⟩,
    ⟨(some 118), .op (.bin .eql (.t 117) (.c (.i .i64 0))), (some (114, true))⟩,
    ⟨(some 119), .op (.pick (.t 114) (.t 118) (.c (.b false))), none⟩,
    ⟨(some 120), .op (.mov (.t 119)), none⟩,
    ⟨(some 121), .callF 9 [], (some (120, true))⟩,
    ⟨(some 122), .op (.pick (.t 120) (.t 121) (.c (.b false))), none⟩,
    ⟨(some 4), .op (.mov (.t 122)), none⟩])
  (.ret)))))))))))))⟩
-- vestibule/restrict.Key
def i7 : IFn := ⟨[.tmp 2],
  .seq (.reg false [⟨(some 2), .op (.mov (.c (.b false))), none⟩])
  (.seq (.reg false [⟨(some 6), .callF 21 [], none⟩,
    ⟨(some 7), .op (.mov (.t 0)), none⟩,
    ⟨(some 8), .op (.lookM none true (.nilf) (.t 6) (.t 7)), none⟩,
    ⟨(some 5), .op (.mov (.t 8)), none⟩,
    ⟨(some 9), .op (.ext (.t 5) 0), none⟩,
    ⟨(some 10), .op (.ext (.t 5) 1), none⟩,
    ⟨(some 3), .op (.mov (.t 9)), none⟩,
    ⟨(some 4), .op (.mov (.t 10)), none⟩])
  (.seq (.reg false [⟨(some 11), .op (.mov (.t 4)), none⟩,
    ⟨(some 2), .op (.mov (.t 11)), none⟩])
  (.ret)))⟩
-- vestibule/vestibuleref18.Key
def i8 : IFn := ⟨[.tmp 2],
  .seq (.reg false [⟨(some 2), .op (.mov (.c (.b false))), none⟩])
  (.seq (.reg false [⟨(some 3), .op (.mov (.t 0)), none⟩,
    ⟨(some 4), .op (.bin .eql (.t 3) (.c (.s [83, 121, 115, 116, 101, 109, 67, 97, 108, 108, 65, 114, 99, 104, 105, 116, 101, 99, 116, 117, 114, 101, 115]))), none⟩,
    ⟨(some 5), .op (.mov (.t 4)), none⟩,
    ⟨(some 6), .op (.mov (.t 0)), (some (5, false))⟩,
    ⟨(some 7), .op (.bin .eql (.t 6) (.c (.s [82, 101, 115, 116, 114, 105, 99, 116, 65, 100, 100, 114, 101, 115, 115, 70, 97, 109, 105, 108, 105, 101, 115]))), (some (5, false))⟩,
    ⟨(some 8), .op (.pick (.t 5) (.c (.b true)) (.t 7)), none⟩,
    ⟨(some 9), .op (.mov (.t 8)), none⟩,
    ⟨(some 10), .op (.mov (.t 0)), (some (9, false))⟩,
    ⟨(some 11), .op (.bin .eql (.t 10) (.c (.s [82, 101, 115, 116, 114, 105, 99, 116, 78, 97, 109, 101, 115, 112, 97, 99, 101, 115]))), (some (9, false))⟩,
    ⟨(some 12), .op (.pick (.t 9) (.c (.b true)) (.t 11)), none⟩,
    ⟨(some 13), .op (.mov (.t 12)), none⟩,
    ⟨(some 14), .op (.mov (.t 0)), (some (13, false))⟩,
    ⟨(some 15), .callF 22 [(.t 14)], (some (13, false))⟩,
    ⟨(some 16), .op (.pick (.t 13) (.c (.b true)) (.t 15)), none⟩,
    ⟨(some 2), .op (.mov (.t 16)), none⟩])
  (.ret))⟩
-- vestibule/vestibulelaw18.awake
def i9 : IFn := ⟨[.tmp 0],
  .seq (.reg false [⟨(some 0), .op (.mov (.c (.b false))), none⟩])
  (.seq (.reg false [⟨(some 18), .op (.buildS 2 [.s []] [(0, 1, (.c (.s [110, 97, 116, 105, 118, 101, 32, 120, 56, 54]))), (1, 1, (.c (.s [118, 97, 120])))]), none⟩,
    ⟨(some 19), .callF 17 [(.c (.s [83, 121, 115, 116, 101, 109, 67, 97, 108, 108, 65, 114, 99, 104, 105, 116, 101, 99, 116, 117, 114, 101, 115])), (.t 18)], none⟩,
    ⟨(some 17), .op (.mov (.t 19)), none⟩,
    ⟨(some 20), .op (.ext (.t 17) 0), none⟩,
    ⟨(some 21), .op (.ext (.t 17) 1), none⟩,
    ⟨(some 1), .op (.alloc [.nils, .i .u8 0, .nils, .i .u32 0, .i .u8 0, .nils, .nils, .i .u8 0, .i .u64 0, .b false, .b false, .b false, .b false]), none⟩,
    ⟨none, .op (.store 13 (.t 1) (.t 20)), none⟩,
    ⟨(some 2), .op (.mov (.t 21)), none⟩])
  (.seq (.reg false [⟨(some 23), .op (.buildS 2 [.s []] [(0, 1, (.c (.s [65, 70, 95, 85, 78, 73, 88, 32, 65, 70, 95, 73, 78, 69, 84]))), (1, 1, (.c (.s [126, 65, 70, 95, 85, 78, 73, 88])))]), none⟩,
    ⟨(some 24), .callF 17 [(.c (.s [82, 101, 115, 116, 114, 105, 99, 116, 65, 100, 100, 114, 101, 115, 115, 70, 97, 109, 105, 108, 105, 101, 115])), (.t 23)], none⟩,
    ⟨(some 22), .op (.mov (.t 24)), none⟩,
    ⟨(some 25), .op (.ext (.t 22) 0), none⟩,
    ⟨(some 26), .op (.ext (.t 22) 1), none⟩,
    ⟨(some 3), .op (.alloc [.nils, .i .u8 0, .nils, .i .u32 0, .i .u8 0, .nils, .nils, .i .u8 0, .i .u64 0, .b false, .b false, .b false, .b false]), none⟩,
    ⟨none, .op (.store 13 (.t 3) (.t 25)), none⟩,
    ⟨(some 4), .op (.mov (.t 26)), none⟩])
  (.seq (.reg false [⟨(some 28), .op (.buildS 1 [.s []] [(0, 1, (.c (.s [126, 65, 70, 95, 73, 78, 69, 84])))]), none⟩,
    ⟨(some 29), .callF 17 [(.c (.s [82, 101, 115, 116, 114, 105, 99, 116, 65, 100, 100, 114, 101, 115, 115, 70, 97, 109, 105, 108, 105, 101, 115])), (.t 28)], none⟩,
    ⟨(some 27), .op (.mov (.t 29)), none⟩,
    ⟨(some 30), .op (.ext (.t 27) 0), none⟩,
    ⟨(some 31), .op (.ext (.t 27) 1), none⟩,
    ⟨(some 5), .op (.alloc [.nils, .i .u8 0, .nils, .i .u32 0, .i .u8 0, .nils, .nils, .i .u8 0, .i .u64 0, .b false, .b false, .b false, .b false]), none⟩,
    ⟨none, .op (.store 13 (.t 5) (.t 30)), none⟩,
    ⟨(some 6), .op (.mov (.t 31)), none⟩])
  (.seq (.reg false [⟨(some 33), .op (.buildS 1 [.s []] [(0, 1, (.c (.s [110, 111, 110, 101])))]), none⟩,
    ⟨(some 34), .callF 17 [(.c (.s [82, 101, 115, 116, 114, 105, 99, 116, 65, 100, 100, 114, 101, 115, 115, 70, 97, 109, 105, 108, 105, 101, 115])), (.t 33)], none⟩,
    ⟨(some 32), .op (.mov (.t 34)), none⟩,
    ⟨(some 35), .op (.ext (.t 32) 0), none⟩,
    ⟨(some 36), .op (.ext (.t 32) 1), none⟩,
    ⟨(some 7), .op (.alloc [.nils, .i .u8 0, .nils, .i .u32 0, .i .u8 0, .nils, .nils, .i .u8 0, .i .u64 0, .b false, .b false, .b false, .b false]), none⟩,
    ⟨none, .op (.store 13 (.t 7) (.t 35)), none⟩,
    ⟨(some 8), .op (.mov (.t 36)), none⟩])
  (.seq (.reg false [⟨(some 38), .op (.buildS 2 [.s []] [(0, 1, (.c (.s [121, 101, 115]))), (1, 1, (.c (.s [100, 105, 115, 107])))]), none⟩,
    ⟨(some 39), .callF 17 [(.c (.s [82, 101, 115, 116, 114, 105, 99, 116, 78, 97, 109, 101, 115, 112, 97, 99, 101, 115])), (.t 38)], none⟩,
    ⟨(some 37), .op (.mov (.t 39)), none⟩,
    ⟨(some 40), .op (.ext (.t 37) 0), none⟩,
    ⟨(some 41), .op (.ext (.t 37) 1), none⟩,
    ⟨(some 9), .op (.alloc [.nils, .i .u8 0, .nils, .i .u32 0, .i .u8 0, .nils, .nils, .i .u8 0, .i .u64 0, .b false, .b false, .b false, .b false]), none⟩,
    ⟨none, .op (.store 13 (.t 9) (.t 40)), none⟩,
    ⟨(some 10), .op (.mov (.t 41)), none⟩])
  (.seq (.reg false [⟨(some 43), .op (.buildS 1 [.s []] [(0, 1, (.c (.s [111, 110])))]), none⟩,
    ⟨(some 44), .callF 17 [(.c (.s [76, 111, 99, 107, 80, 101, 114, 115, 111, 110, 97, 108, 105, 116, 121])), (.t 43)], none⟩,
    ⟨(some 42), .op (.mov (.t 44)), none⟩,
    ⟨(some 45), .op (.ext (.t 42) 0), none⟩,
    ⟨(some 46), .op (.ext (.t 42) 1), none⟩,
    ⟨(some 11), .op (.alloc [.nils, .i .u8 0, .nils, .i .u32 0, .i .u8 0, .nils, .nils, .i .u8 0, .i .u64 0, .b false, .b false, .b false, .b false]), none⟩,
    ⟨none, .op (.store 13 (.t 11) (.t 45)), none⟩,
    ⟨(some 12), .op (.mov (.t 46)), none⟩])
  (.seq (.reg false [⟨(some 48), .op (.buildS 2 [.s []] [(0, 1, (.c (.s [111, 110]))), (1, 1, (.c (.s [109, 97, 121, 98, 101])))]), none⟩,
    ⟨(some 49), .callF 17 [(.c (.s [76, 111, 99, 107, 80, 101, 114, 115, 111, 110, 97, 108, 105, 116, 121])), (.t 48)], none⟩,
    ⟨(some 47), .op (.mov (.t 49)), none⟩,
    ⟨(some 50), .op (.ext (.t 47) 0), none⟩,
    ⟨(some 51), .op (.ext (.t 47) 1), none⟩,
    ⟨(some 13), .op (.alloc [.nils, .i .u8 0, .nils, .i .u32 0, .i .u8 0, .nils, .nils, .i .u8 0, .i .u64 0, .b false, .b false, .b false, .b false]), none⟩,
    ⟨none, .op (.store 13 (.t 13) (.t 50)), none⟩,
    ⟨(some 14), .op (.mov (.t 51)), none⟩])
  (.seq (.reg false [⟨(some 53), .op (.buildS 2 [.s []] [(0, 1, (.c (.s [111, 110]))), (1, 1, (.c (.s [])))]), none⟩,
    ⟨(some 54), .callF 17 [(.c (.s [76, 111, 99, 107, 80, 101, 114, 115, 111, 110, 97, 108, 105, 116, 121])), (.t 53)], none⟩,
    ⟨(some 52), .op (.mov (.t 54)), none⟩,
    ⟨(some 55), .op (.ext (.t 52) 0), none⟩,
    ⟨(some 56), .op (.ext (.t 52) 1), none⟩,
    ⟨(some 15), .op (.alloc [.nils, .i .u8 0, .nils, .i .u32 0, .i .u8 0, .nils, .nils, .i .u8 0, .i .u64 0, .b false, .b false, .b false, .b false]), none⟩,
    ⟨none, .op (.store 13 (.t 15) (.t 55)), none⟩,
    ⟨(some 16), .op (.mov (.t 56)), none⟩])
  (.seq (.seq (.reg false [⟨(some 57), .op (.fAddr 0 (.t 1)), none⟩,
    ⟨(some 58), .op (.load1 (.t 57)), none⟩,
    ⟨(some 59), .op (.len false (.t 58)), none⟩,
    ⟨(some 60), .op (.bin .neq (.t 59) (.c (.i .i64 2))), none⟩,
    ⟨(some 61), .op (.mov (.t 60)), none⟩,
    ⟨(some 62), .op (.fAddr 0 (.t 1)), (some (61, false))⟩,
    ⟨(some 63), .op (.load1 (.t 62)), (some (61, false))⟩,
    ⟨(some 64), .op (.iAddrS 1 (.t 63) (.c (.i .i64 0))), (some (61, false))⟩,
    ⟨(some 65), .op (.load1 (.t 64)), (some (61, false))⟩,
    ⟨(some 66), .op (.bin .neq (.t 65) (.c (.i .i64 0))), (some (61, false))⟩,
    ⟨(some 67), .op (.pick (.t 61) (.c (.b true)) (.t 66)), none⟩,
    ⟨(some 68), .op (.mov (.t 67)), none⟩,
    ⟨(some 69), .op (.fAddr 0 (.t 1)), (some (68, false))⟩,
    ⟨(some 70), .op (.load1 (.t 69)), (some (68, false))⟩,
    ⟨(some 71), .op (.iAddrS 1 (.t 70) (.c (.i .i64 1))), (some (68, false))⟩,
    ⟨(some 72), .op (.load1 (.t 71)), (some (68, false))⟩,
    ⟨(some 73), .op (.bin .neq (.t 72) (.c (.i .i64 1))), (some (68, false))⟩,
    ⟨(some 74), .op (.pick (.t 68) (.c (.b true)) (.t 73)), none⟩,
    ⟨(some 75), .op (.mov (.t 74)), none⟩,
    ⟨(some 76), .op (.mov (.t 2)), (some (75, false))⟩,
    ⟨(some 77), .op (.bin .neq (.t 76) (.c (.i .i64 1))), (some (75, false))⟩,
    ⟨(some 78), .op (.pick (.t 75) (.c (.b true)) (.t 77)), none⟩,
    ⟨(some 79), .op (.mov (.t 78)), none⟩,
    ⟨(some 80), .op (.fAddr 6 (.t 3)), (some (79, false))⟩,
    ⟨(some 81), .op (.load1 (.t 80)), (some (79, false))⟩,
    ⟨(some 82), .op (.len false (.t 81)), (some (79, false))⟩,
    ⟨(some 83), .op (.bin .neq (.t 82) (.c (.i .i64 1))), (some (79, false))⟩,
    ⟨(some 84), .op (.pick (.t 79) (.c (.b true)) (.t 83)), none⟩,
    ⟨(some 85), .op (.mov (.t 84)), none⟩,
    ⟨(some 86), .op (.fAddr 6 (.t 3)), (some (85, false))⟩,
    ⟨(some 87), .op (.load1 (.t 86)), (some (85, false))⟩,
    ⟨(some 88), .op (.iAddrS 1 (.t 87) (.c (.i .i64 0))), (some (85, false))⟩,
    ⟨(some 89), .op (.load1 (.t 88)), (some (85, false))⟩,
    ⟨(some 90), .op (.bin .neq (.t 89) (.c (.i .u32 2))), (some (85, false))⟩,
    ⟨(some 91), .op (.pick (.t 85) (.c (.b true)) (.t 90)), none⟩,
    ⟨(some 92), .op (.mov (.t 91)), none⟩,
    ⟨(some 93), .op (.fAddr 7 (.t 3)), (some (92, false))⟩,
    ⟨(some 94), .op (.load1 (.t 93)), (some (92, false))⟩,
    ⟨(some 95), .op (.bin .neq (.t 94) (.c (.i .u8 1))), (some (92, false))⟩,
    ⟨(some 96), .op (.pick (.t 92) (.c (.b true)) (.t 95)), none⟩,
    ⟨(some 97), .op (.mov (.t 96)), none⟩,
    ⟨(some 98), .op (.fAddr 6 (.t 5)), (some (97, false))⟩,
    ⟨(some 99), .op (.load1 (.t 98)), (some (97, false))⟩,
    ⟨(some 100), .op (.len false (.t 99)), (some (97, false))⟩,
    ⟨(some 101), .op (.bin .neq (.t 100) (.c (.i .i64 1))), (some (97, false))⟩,
    ⟨(some 102), .op (.pick (.t 97) (.c (.b true)) (.t 101)), none⟩,
    ⟨(some 103), .op (.mov (.t 102)), none⟩,
    ⟨(some 104), .op (.fAddr 7 (.t 5)), (some (103, false))⟩,
    ⟨(some 105), .op (.load1 (.t 104)), (some (103, false))⟩,
    ⟨(some 106), .op (.bin .neq (.t 105) (.c (.i .u8 2))), (some (103, false))⟩,
    ⟨(some 107), .op (.pick (.t 103) (.c (.b true)) (.t 106)), none⟩,
    ⟨(some 108), .op (.mov (.t 107)), none⟩,
    ⟨(some 109), .op (.fAddr 6 (.t 7)), (some (108, false))⟩,
    ⟨(some 110), .op (.load1 (.t 109)), (some (108, false))⟩,
    ⟨(some 111), .op (.len false (.t 110)), (some (108, false))⟩,
    ⟨(some 112), .op (.bin .neq (.t 111) (.c (.i .i64 0))), (some (108, false))⟩,
    ⟨(some 113), .op (.pick (.t 108) (.c (.b true)) (.t 112)), none⟩,
    ⟨(some 114), .op (.mov (.t 113)), none⟩,
    ⟨(some 115), .op (.fAddr 7 (.t 7)), (some (114, false))⟩,
    ⟨(some 116), .op (.load1 (.t 115)), (some (114, false))⟩,
    ⟨(some 117), .op (.bin .neq (.t 116) (.c (.i .u8 1))), (some (114, false))⟩,
    ⟨(some 118), .op (.pick (.t 114) (.c (.b true)) (.t 117)), none⟩])
  (.cond (.t 118) (.seq (.reg false [⟨(some 0), .op (.mov (.c (.b false))), none⟩])
  (.ret)) (.skip)))
  (.seq (.reg false [⟨(some 119), .op (.fAddr 8 (.t 9)), none⟩,
    ⟨(some 120), .op (.load1 (.t 119)), none⟩,
    ⟨(some 121), .op (.bin .eql (.t 120) (.c (.i .u64 2114060416))), none⟩,
    ⟨(some 122), .op (.mov (.t 121)), none⟩,
    ⟨(some 123), .op (.mov (.t 10)), (some (122, true))⟩,
    ⟨(some 124), .op (.bin .eql (.t 123) (.c (.i .i64 1))), (some (122, true))⟩,
    ⟨(some 125), .op (.pick (.t 122) (.t 124) (.c (.b false))), none⟩,
    ⟨(some 126), .op (.mov (.t 125)), none⟩,
    ⟨(some 127), .callF 19 [(.c (.s [110, 101, 116, 32, 112, 105, 100]))], (some (126, true))⟩,
    ⟨(some 128), .op (.bin .eql (.t 127) (.c (.i .u64 503447680))), (some (126, true))⟩,
    ⟨(some 129), .op (.pick (.t 126) (.t 128) (.c (.b false))), none⟩,
    ⟨(some 130), .op (.mov (.t 129)), none⟩,
    ⟨(some 131), .callF 19 [(.c (.s [126, 110, 101, 116]))], (some (130, true))⟩,
    ⟨(some 132), .op (.bin .eql (.t 131) (.c (.i .u64 1073741824))), (some (130, true))⟩,
    ⟨(some 133), .op (.pick (.t 130) (.t 132) (.c (.b false))), none⟩,
    ⟨(some 134), .op (.mov (.t 133)), none⟩,
    ⟨(some 135), .callF 19 [(.c (.s [110, 111]))], (some (134, true))⟩,
    ⟨(some 136), .op (.bin .eql (.t 135) (.c (.i .u64 0))), (some (134, true))⟩,
    ⟨(some 137), .op (.pick (.t 134) (.t 136) (.c (.b false))), none⟩,
    ⟨(some 138), .op (.mov (.t 137)), none⟩,
    ⟨(some 139), .op (.fAddr 10 (.t 11)), (some (138, true))⟩,
    ⟨(some 140), .op (.load1 (.t 139)), (some (138, true))⟩,
    ⟨(some 141), .op (.pick (.t 138) (.t 140) (.c (.b false))), none⟩,
    ⟨(some 142), .op (.mov (.t 141)), none⟩,
    ⟨(some 143), .op (.fAddr 10 (.t 13)), (some (142, true))⟩,
    ⟨(some 144), .op (.load1 (.t 143)), (some (142, true))⟩,
    ⟨(some 145), .op (.pick (.t 142) (.t 144) (.c (.b false))), none⟩,
    ⟨(some 146), .op (.mov (.t 145)), none⟩,
    ⟨(some 147), .op (.mov (.t 14)), (some (146, true))⟩,
    ⟨(some 148), .op (.bin .eql (.t 147) (.c (.i .i64 1))), (some (146, true))⟩,
    ⟨(some 149), .op (.pick (.t 146) (.t 148) (.c (.b false))), none⟩,
    ⟨(some 150), .op (.mov (.t 149)), none⟩,
    ⟨(some 151), .op (.fAddr 10 (.t 15)), (some (150, true))⟩,
    ⟨(some 152), .op (.load1 (.t 151)), (some (150, true))⟩,
    ⟨(some 153), .op (.un .not (.t 152)), (some (150, true))⟩,
    ⟨(some 154), .op (.pick (.t 150) (.t 153) (.c (.b false))), none⟩,
    ⟨(some 155), .op (.mov (.t 154)), none⟩,
    ⟨(some 156), .callF 7 [(.c (.s [78, 111, 78, 101, 119, 80, 114, 105, 118, 105, 108, 101, 103, 101, 115]))], (some (155, true))⟩,
    ⟨(some 157), .op (.pick (.t 155) (.t 156) (.c (.b false))), none⟩,
    ⟨(some 158), .op (.mov (.t 157)), none⟩,
    ⟨(some 159), .callF 7 [(.c (.s [83, 121, 115, 116, 101, 109, 67, 97, 108, 108, 70, 105, 108, 116, 101, 114]))], (some (158, true))⟩,
    ⟨(some 160), .op (.un .not (.t 159)), (some (158, true))⟩,
    ⟨(some 161), .op (.pick (.t 158) (.t 160) (.c (.b false))), none⟩,
    ⟨(some 0), .op (.mov (.t 161)), none⟩])
  (.ret)))))))))))⟩
-- vestibule/vestibulelaw17.Great
def i10 : IFn := ⟨[.tmp 4],
  .seq (.reg false [⟨(some 2), .op (.box (.t 0)), none⟩,
    ⟨(some 3), .op (.box (.t 1)), none⟩,
    ⟨(some 4), .op (.mov (.c (.b false))), none⟩])
  (.seq (.reg false [⟨(some 5), .op (.fAddr 0 (.t 2)), none⟩,
    ⟨(some 6), .op (.load1 (.t 5)), none⟩,
    ⟨(some 7), .op (.len false (.t 6)), none⟩,
    ⟨(some 8), .op (.bin .gtr (.t 7) (.c (.i .i64 20))), none⟩,
    ⟨(some 9), .op (.mov (.t 8)), none⟩,
    ⟨(some 10), .op (.fAddr 6 (.t 2)), (some (9, false))⟩,
    ⟨(some 11), .op (.load1 (.t 10)), (some (9, false))⟩,
    ⟨(some 12), .op (.len false (.t 11)), (some (9, false))⟩,
    ⟨(some 13), .op (.bin .gtr (.t 12) (.c (.i .i64 20))), (some (9, false))⟩,
    ⟨(some 14), .op (.pick (.t 9) (.c (.b true)) (.t 13)), none⟩,
    ⟨(some 15), .op (.mov (.t 14)), none⟩,
    ⟨(some 16), .op (.fAddr 1 (.t 2)), (some (15, false))⟩,
    ⟨(some 17), .op (.loadN 2 (.t 16)), (some (15, false))⟩,
    ⟨(some 18), .callF 23 [(.t 17)], (some (15, false))⟩,
    ⟨(some 19), .op (.pick (.t 15) (.c (.b true)) (.t 18)), none⟩,
    ⟨(some 20), .op (.mov (.t 19)), none⟩,
    ⟨(some 21), .op (.fAddr 4 (.t 2)), (some (20, false))⟩,
    ⟨(some 22), .op (.loadN 2 (.t 21)), (some (20, false))⟩,
    ⟨(some 23), .callF 23 [(.t 22)], (some (20, false))⟩,
    ⟨(some 24), .op (.pick (.t 20) (.c (.b true)) (.t 23)), none⟩,
    ⟨(some 25), .op (.mov (.t 24)), none⟩,
    ⟨(some 26), .op (.fAddr 4 (.t 3)), (some (25, false))⟩,
    ⟨(some 27), .op (.load1 (.t 26)), (some (25, false))⟩,
    ⟨(some 28), .op (.len true (.t 27)), (some (25, false))⟩,
    ⟨(some 29), .op (.bin .gtr (.t 28) (.c (.i .i64 1000))), (some (25, false))⟩,
    ⟨(some 30), .op (.pick (.t 25) (.c (.b true)) (.t 29)), none⟩,
    ⟨(some 31), .op (.mov (.t 30)), none⟩,
    ⟨(some 32), .op (.fAddr 3 (.t 3)), (some (31, false))⟩,
    ⟨(some 33), .op (.load1 (.t 32)), (some (31, false))⟩,
    ⟨(some 34), .op (.len true (.t 33)), (some (31, false))⟩,
    ⟨(some 35), .op (.bin .gtr (.t 34) (.c (.i .i64 200))), (some (31, false))⟩,
    ⟨(some 36), .op (.pick (.t 31) (.c (.b true)) (.t 35)), none⟩,
    ⟨(some 37), .op (.mov (.t 36)), none⟩,
    ⟨(some 38), .op (.fAddr 0 (.t 3)), (some (37, false))⟩,
    ⟨(some 39), .op (.load1 (.t 38)), (some (37, false))⟩,
    ⟨(some 40), .op (.len true (.t 39)), (some (37, false))⟩,
    ⟨(some 41), .op (.bin .gtr (.t 40) (.c (.i .i64 200))), (some (37, false))⟩,
    ⟨(some 42), .op (.pick (.t 37) (.c (.b true)) (.t 41)), none⟩,
    ⟨(some 4), .op (.mov (.t 42)), none⟩])
  (.ret))⟩
-- vestibule/vestibulelaw18.Rises
def i11 : IFn := ⟨[.tmp 2],
  .seq (.reg false [⟨(some 1), .op (.box (.t 0)), none⟩,
    ⟨(some 2), .op (.mov (.c (.b false))), none⟩])
  (.seq (.seq (.reg false [⟨(some 3), .op (.mov (.c (.i .i64 1))), none⟩])
  (.blk 0 (.loop (.seq (.seq (.reg false [⟨(some 5), .op (.mov (.t 3)), none⟩,
    ⟨(some 6), .op (.fAddr 0 (.t 1)), none⟩,
    ⟨(some 7), .op (.load1 (.t 6)), none⟩,
    ⟨(some 8), .op (.len false (.t 7)), none⟩,
    ⟨(some 9), .op (.bin .lss (.t 5) (.t 8)), none⟩])
  (.cond (.t 9) (.skip) (.exit 0)))
  (.seq (.blk 1 (.seq (.reg true [⟨(some 12), .op (.fAddr 0 (.t 1)), none⟩,
    ⟨(some 13), .op (.load1 (.t 12)), none⟩,
    ⟨(some 14), .op (.mov (.t 3)), none⟩,
    ⟨(some 15), .op (.bin .sub (.t 14) (.c (.i .i64 1))), none⟩,
    ⟨(some 16), .op (.iAddrS 1 (.t 13) (.t 15)), none⟩,
    ⟨(some 17), .op (.load1 (.t 16)), none⟩,
    ⟨(some 18), .op (.fAddr 0 (.t 1)), none⟩,
    ⟨(some 19), .op (.load1 (.t 18)), none⟩,
    ⟨(some 20), .op (.mov (.t 3)), none⟩,
    ⟨(some 21), .op (.iAddrS 1 (.t 19) (.t 20)), none⟩,
    ⟨(some 22), .op (.load1 (.t 21)), none⟩,
    ⟨(some 23), .op (.bin .geq (.t 17) (.t 22)), none⟩])
  (.cond (.t 23) (.seq (.reg false [⟨(some 2), .op (.mov (.c (.b false))), none⟩])
  (.ret)) (.skip))))
  (.reg false [⟨(some 10), .op (.mov (.t 3)), none⟩,
    ⟨(some 11), .op (.bin .add (.t 10) (.c (.i .i64 1))), none⟩,
    ⟨(some 3), .op (.mov (.t 11)), none⟩]))))))
  (.seq (.seq (.reg false [⟨(some 4), .op (.mov (.c (.i .i64 1))), none⟩])
  (.blk 2 (.loop (.seq (.seq (.reg false [⟨(some 24), .op (.mov (.t 4)), none⟩,
    ⟨(some 25), .op (.fAddr 6 (.t 1)), none⟩,
    ⟨(some 26), .op (.load1 (.t 25)), none⟩,
    ⟨(some 27), .op (.len false (.t 26)), none⟩,
    ⟨(some 28), .op (.bin .lss (.t 24) (.t 27)), none⟩])
  (.cond (.t 28) (.skip) (.exit 2)))
  (.seq (.blk 3 (.seq (.reg true [⟨(some 31), .op (.fAddr 6 (.t 1)), none⟩,
    ⟨(some 32), .op (.load1 (.t 31)), none⟩,
    ⟨(some 33), .op (.mov (.t 4)), none⟩,
    ⟨(some 34), .op (.bin .sub (.t 33) (.c (.i .i64 1))), none⟩,
    ⟨(some 35), .op (.iAddrS 1 (.t 32) (.t 34)), none⟩,
    ⟨(some 36), .op (.load1 (.t 35)), none⟩,
    ⟨(some 37), .op (.fAddr 6 (.t 1)), none⟩,
    ⟨(some 38), .op (.load1 (.t 37)), none⟩,
    ⟨(some 39), .op (.mov (.t 4)), none⟩,
    ⟨(some 40), .op (.iAddrS 1 (.t 38) (.t 39)), none⟩,
    ⟨(some 41), .op (.load1 (.t 40)), none⟩,
    ⟨(some 42), .op (.bin .geq (.t 36) (.t 41)), none⟩])
  (.cond (.t 42) (.seq (.reg false [⟨(some 2), .op (.mov (.c (.b false))), none⟩])
  (.ret)) (.skip))))
  (.reg false [⟨(some 29), .op (.mov (.t 4)), none⟩,
    ⟨(some 30), .op (.bin .add (.t 29) (.c (.i .i64 1))), none⟩,
    ⟨(some 4), .op (.mov (.t 30)), none⟩]))))))
  (.seq (.reg false [⟨(some 2), .op (.mov (.c (.b true))), none⟩])
  (.ret))))⟩
-- vestibule/restrict.Set
def i12 : IFn := ⟨[.cell 4 13 true, .tmp 5],
  .seq (.reg false [⟨(some 2), .op (.box (.t 0)), none⟩,
    ⟨(some 3), .op (.box (.t 1)), none⟩,
    ⟨(some 4), .op (.alloc [.nils, .i .u8 0, .nils, .i .u32 0, .i .u8 0, .nils, .nils, .i .u8 0, .i .u64 0, .b false, .b false, .b false, .b false]), none⟩,
    ⟨(some 5), .op (.mov (.c (.nils))), none⟩])
  (.seq (.reg true [⟨(some 9), .op (.loadN 13 (.t 2)), none⟩,
    ⟨(some 10), .callF 24 [(.t 9)], none⟩,
    ⟨(some 11), .op (.loadN 5 (.t 3)), none⟩,
    ⟨(some 12), .op (.build [.nils, .i .u8 0, .nils, .i .u32 0, .i .u8 0, .nils, .nils, .i .u8 0, .i .u64 0, .b false, .b false, .b false, .b false, .nils, .s [], .i .i64 0, .s [], .s [], .s []] [(0, 13, (.t 10)), (14, 5, (.t 11))]), none⟩,
    ⟨(some 13), .op (.box (.t 12)), none⟩,
    ⟨(some 6), .op (.mov (.t 13)), none⟩])
  (.seq (.seq (.reg true [⟨(some 15), .callF 21 [], none⟩,
    ⟨(some 16), .op (.fAddr 3 (.t 3)), none⟩,
    ⟨(some 17), .op (.load1 (.t 16)), none⟩,
    ⟨(some 18), .op (.lookM none true (.nilf) (.t 15) (.t 17)), none⟩,
    ⟨(some 14), .op (.mov (.t 18)), none⟩,
    ⟨(some 19), .op (.ext (.t 14) 0), none⟩,
    ⟨(some 20), .op (.ext (.t 14) 1), none⟩,
    ⟨(some 7), .op (.mov (.t 19)), none⟩,
    ⟨(some 8), .op (.mov (.t 20)), none⟩])
  (.seq (.reg false [⟨(some 21), .op (.mov (.t 8)), none⟩])
  (.cond (.t 21) (.reg false [⟨(some 22), .op (.mov (.t 7)), none⟩,
    ⟨(some 23), .op (.mov (.t 6)), none⟩,
    ⟨(some 24), .op (.fAddr 4 (.t 3)), none⟩,
    ⟨(some 25), .op (.load1 (.t 24)), none⟩,
    ⟨(some 26), .callV (.t 22) [(.t 23), (.t 25)], none⟩]) (.skip))))
  (.seq (.reg true [⟨(some 27), .op (.mov (.t 6)), none⟩,
    ⟨(some 28), .op (.nilChk (.t 27)), none⟩,
    ⟨(some 29), .op (.fAddr 0 (.t 28)), none⟩,
    ⟨(some 30), .op (.loadN 13 (.t 29)), none⟩,
    ⟨(some 31), .op (.mov (.t 6)), none⟩,
    ⟨(some 32), .op (.nilChk (.t 31)), none⟩,
    ⟨(some 33), .op (.fAddr 13 (.t 32)), none⟩,
    ⟨(some 34), .op (.load1 (.t 33)), none⟩,
    ⟨none, .op (.storeD 13 (.t 4) (.t 30) [33]), none⟩,
    ⟨(some 5), .op (.mov (.t 34)), none⟩])
  (.ret))))⟩
-- vestibule/vestibulelaw17.Copied
def i13 : IFn := ⟨[.cell 2 13 true],
  .seq (.reg false [⟨(some 1), .op (.box (.t 0)), none⟩,
    ⟨(some 2), .op (.alloc [.nils, .i .u8 0, .nils, .i .u32 0, .i .u8 0, .nils, .nils, .i .u8 0, .i .u64 0, .b false, .b false, .b false, .b false]), none⟩])
  (.seq (.reg false [⟨(some 3), .op (.buildS 0 [.i .i64 0] []), none⟩,
    ⟨(some 4), .op (.fAddr 0 (.t 1)), none⟩,
    ⟨(some 5), .op (.load1 (.t 4)), none⟩,
    ⟨(some 6), .op (.app 1 8 false (.t 3) (.t 5)), none⟩,
    ⟨(some 7), .op (.fAddr 0 (.t 1)), none⟩,
    ⟨none, .op (.store 1 (.t 7) (.t 6)), none⟩])
  (.seq (.reg false [⟨(some 8), .op (.buildS 0 [.i .u32 0] []), none⟩,
    ⟨(some 9), .op (.fAddr 6 (.t 1)), none⟩,
    ⟨(some 10), .op (.load1 (.t 9)), none⟩,
    ⟨(some 11), .op (.app 1 4 false (.t 8) (.t 10)), none⟩,
    ⟨(some 12), .op (.fAddr 6 (.t 1)), none⟩,
    ⟨none, .op (.store 1 (.t 12) (.t 11)), none⟩])
  (.seq (.reg false [⟨(some 13), .op (.fAddr 1 (.t 1)), none⟩,
    ⟨(some 14), .op (.loadN 2 (.t 13)), none⟩,
    ⟨(some 15), .callF 25 [(.t 14)], none⟩,
    ⟨(some 16), .op (.fAddr 1 (.t 1)), none⟩,
    ⟨none, .op (.store 2 (.t 16) (.t 15)), none⟩])
  (.seq (.reg false [⟨(some 17), .op (.fAddr 4 (.t 1)), none⟩,
    ⟨(some 18), .op (.loadN 2 (.t 17)), none⟩,
    ⟨(some 19), .callF 25 [(.t 18)], none⟩,
    ⟨(some 20), .op (.fAddr 4 (.t 1)), none⟩,
    ⟨none, .op (.store 2 (.t 20) (.t 19)), none⟩])
  (.seq (.reg false [⟨(some 21), .op (.loadN 13 (.t 1)), none⟩,
    ⟨none, .op (.store 13 (.t 2) (.t 21)), none⟩])
  (.ret))))))⟩
-- vestibule/values.Words
def i14 : IFn := ⟨[.tmp 2],
  .seq (.reg false [⟨(some 2), .op (.mov (.c (.nils))), none⟩])
  (.seq (.reg false [⟨(some 3), .op (.mov (.t 0)), none⟩,
    ⟨(some 4), .callF 26 [(.t 3), (.c (.fn 27 [] []))], none⟩,
    ⟨(some 2), .op (.mov (.t 4)), none⟩])
  (.ret))⟩
-- vestibule/values.Bool
def i15 : IFn := ⟨[.tmp 2, .tmp 3],
  .seq (.reg false [⟨(some 2), .op (.mov (.c (.b false))), none⟩,
    ⟨(some 3), .op (.mov (.c (.i .i64 0))), none⟩])
  (.seq (.seq (.reg false [⟨(some 6), .callF 28 [], none⟩,
    ⟨(some 7), .op (.mov (.c (.i .i64 0))), none⟩])
  (.blk 0 (.loop (.seq (.reg false [⟨(some 8), .op (.bin .lss (.t 7) (.c (.i .i64 2))), none⟩])
  (.seq (.cond (.t 8) (.skip) (.exit 0))
  (.seq (.blk 1 (.seq (.reg false [⟨(some 9), .op (.mov (.t 7)), none⟩,
    ⟨(some 10), .op (.idxA 2 4 true (.t 6) (.t 7)), none⟩,
    ⟨(some 5), .op (.alloc [.s [], .s [], .s [], .s []]), none⟩,
    ⟨(some 4), .op (.mov (.t 9)), none⟩,
    ⟨none, .op (.store 4 (.t 5) (.t 10)), none⟩])
  (.seq (.reg false [⟨(some 11), .op (.slcA 4 1 (.t 5) none none none), none⟩,
    ⟨(some 12), .op (.mov (.t 0)), none⟩,
    ⟨(some 13), .callF 29 [(.t 11), (.t 12)], none⟩])
  (.cond (.t 13) (.seq (.reg false [⟨(some 14), .op (.mov (.t 4)), none⟩,
    ⟨(some 15), .op (.bin .eql (.t 14) (.c (.i .i64 1))), none⟩,
    ⟨(some 2), .op (.mov (.t 15)), none⟩,
    ⟨(some 3), .op (.mov (.c (.i .i64 0))), none⟩])
  (.ret)) (.skip)))))
  (.reg false [⟨(some 16), .op (.bin .add (.t 7) (.c (.i .i64 1))), none⟩,
    ⟨(some 7), .op (.mov (.t 16)), none⟩])))))))
  (.seq (.reg false [⟨(some 2), .op (.mov (.c (.b false))), none⟩,
    ⟨(some 3), .op (.mov (.c (.i .i64 150))), none⟩])
  (.ret)))⟩
-- vestibule/values.Turned
def i16 : IFn := ⟨[.tmp 2, .tmp 3],
  .seq (.reg false [⟨(some 2), .op (.mov (.c (.s []))), none⟩,
    ⟨(some 3), .op (.mov (.c (.b false))), none⟩])
  (.seq (.reg false [⟨(some 4), .op (.mov (.t 0)), none⟩,
    ⟨(some 5), .callF 30 [(.t 4), (.c (.s [126]))], none⟩,
    ⟨(some 6), .op (.ext (.t 5) 0), none⟩,
    ⟨(some 7), .op (.ext (.t 5) 1), none⟩,
    ⟨(some 2), .op (.mov (.t 6)), none⟩,
    ⟨(some 3), .op (.mov (.t 7)), none⟩])
  (.ret))⟩
-- vestibule/vestibulelaw18.after
def i17 : IFn := ⟨[.cell 4 13 true, .tmp 5],
  .seq (.reg false [⟨(some 4), .op (.alloc [.nils, .i .u8 0, .nils, .i .u32 0, .i .u8 0, .nils, .nils, .i .u8 0, .i .u64 0, .b false, .b false, .b false, .b false]), none⟩,
    ⟨(some 5), .op (.mov (.c (.i .i64 0))), none⟩])
  (.seq (.reg false [⟨(some 11), .op (.build [.nils, .i .u8 0, .nils, .i .u32 0, .i .u8 0, .nils, .nils, .i .u8 0, .i .u64 0, .b false, .b false, .b false, .b false] []), none⟩,
    ⟨(some 6), .op (.alloc [.nils, .i .u8 0, .nils, .i .u32 0, .i .u8 0, .nils, .nils, .i .u8 0, .i .u64 0, .b false, .b false, .b false, .b false]), none⟩,
    ⟨none, .op (.store 13 (.t 6) (.t 11)), none⟩])
  (.seq (.reg false [⟨(some 7), .op (.mov (.c (.i .i64 0))), none⟩])
  (.seq (.seq (.reg false [⟨(some 8), .op (.mov (.c (.i .i64 0))), none⟩])
  (.blk 0 (.loop (.seq (.seq (.reg false [⟨(some 12), .op (.mov (.t 8)), none⟩,
    ⟨(some 13), .op (.mov (.t 1)), none⟩,
    ⟨(some 14), .op (.len false (.t 13)), none⟩,
    ⟨(some 15), .op (.bin .lss (.t 12) (.t 14)), none⟩])
  (.cond (.t 15) (.skip) (.exit 0)))
  (.seq (.blk 1 (.seq (.reg true [⟨(some 19), .op (.loadN 13 (.t 6)), none⟩,
    ⟨(some 20), .op (.mov (.t 8)), none⟩,
    ⟨(some 21), .op (.bin .add (.t 20) (.c (.i .i64 1))), none⟩,
    ⟨(some 22), .op (.mov (.t 0)), none⟩,
    ⟨(some 23), .op (.mov (.t 1)), none⟩,
    ⟨(some 24), .op (.mov (.t 8)), none⟩,
    ⟨(some 25), .op (.iAddrS 1 (.t 23) (.t 24)), none⟩,
    ⟨(some 26), .op (.load1 (.t 25)), none⟩,
    ⟨(some 27), .op (.build [.s [], .i .i64 0, .s [], .s [], .s []] [(0, 1, (.c (.s [102]))), (1, 1, (.t 21)), (2, 1, (.c (.s [83, 101, 114, 118, 105, 99, 101]))), (3, 1, (.t 22)), (4, 1, (.t 26))]), none⟩,
    ⟨(some 28), .callF 12 [(.t 19), (.t 27)], none⟩,
    ⟨(some 18), .op (.mov (.t 28)), none⟩,
    ⟨(some 29), .op (.ext (.t 18) 0), none⟩,
    ⟨(some 30), .op (.ext (.t 18) 1), none⟩,
    ⟨(some 9), .op (.alloc [.nils, .i .u8 0, .nils, .i .u32 0, .i .u8 0, .nils, .nils, .i .u8 0, .i .u64 0, .b false, .b false, .b false, .b false]), none⟩,
    ⟨none, .op (.store 13 (.t 9) (.t 29)), none⟩,
    ⟨(some 10), .op (.mov (.t 30)), none⟩])
  (.seq (.reg false [⟨(some 31), .op (.loadN 13 (.t 9)), none⟩,
    ⟨none, .op (.store 13 (.t 6) (.t 31)), none⟩])
  (.reg false [⟨(some 32), .op (.mov (.t 7)), none⟩,
    ⟨(some 33), .op (.mov (.t 10)), none⟩,
    ⟨(some 34), .op (.len false (.t 33)), none⟩,
    ⟨(some 35), .op (.bin .add (.t 32) (.t 34)), none⟩,
    ⟨(some 7), .op (.mov (.t 35)), none⟩]))))
  (.reg false [⟨(some 16), .op (.mov (.t 8)), none⟩,
    ⟨(some 17), .op (.bin .add (.t 16) (.c (.i .i64 1))), none⟩,
    ⟨(some 8), .op (.mov (.t 17)), none⟩]))))))
  (.seq (.reg false [⟨(some 36), .op (.loadN 13 (.t 6)), none⟩,
    ⟨(some 37), .op (.mov (.t 7)), none⟩,
    ⟨none, .op (.store 13 (.t 4) (.t 36)), none⟩,
    ⟨(some 5), .op (.mov (.t 37)), none⟩])
  (.ret)))))⟩
-- vestibule/names.Spaces
def i18 : IFn := ⟨[.tmp 0],
  .seq (.reg false [⟨(some 0), .op (.mov (.c (.i .u64 0))), none⟩])
  (.seq (.reg false [⟨(some 1), .op (.mov (.c (.i .u64 0))), none⟩])
  (.seq (.seq (.reg false [⟨(some 4), .callF 31 [], none⟩,
    ⟨(some 5), .op (.mov (.c (.i .i64 0))), none⟩])
  (.blk 0 (.loop (.seq (.reg false [⟨(some 6), .op (.bin .lss (.t 5) (.c (.i .i64 8))), none⟩])
  (.seq (.cond (.t 6) (.skip) (.exit 0))
  (.seq (.blk 1 (.seq (.reg false [⟨(some 7), .op (.idxA 8 2 true (.t 4) (.t 5)), none⟩,
    ⟨(some 3), .op (.alloc [.s [], .i .u64 0]), none⟩,
    ⟨none, .op (.store 2 (.t 3) (.t 7)), none⟩])
  (.reg false [⟨(some 8), .op (.mov (.t 1)), none⟩,
    ⟨(some 9), .op (.fAddr 1 (.t 3)), none⟩,
    ⟨(some 10), .op (.load1 (.t 9)), none⟩,
    ⟨(some 11), .op (.bin .or (.t 8) (.t 10)), none⟩,
    ⟨(some 1), .op (.mov (.t 11)), none⟩])))
  (.reg false [⟨(some 12), .op (.bin .add (.t 5) (.c (.i .i64 1))), none⟩,
    ⟨(some 5), .op (.mov (.t 12)), none⟩])))))))
  (.seq (.reg false [⟨(some 13), .op (.mov (.t 1)), none⟩,
    ⟨(some 0), .op (.mov (.t 13)), none⟩])
  (.ret))))⟩
-- vestibule/vestibulelaw18.spaces
def i19 : IFn := ⟨[.tmp 2],
  .seq (.reg false [⟨(some 2), .op (.mov (.c (.i .u64 0))), none⟩])
  (.seq (.reg false [⟨(some 6), .op (.mov (.t 0)), none⟩,
    ⟨(some 7), .op (.buildS 1 [.s []] [(0, 1, (.t 6))]), none⟩,
    ⟨(some 8), .callF 17 [(.c (.s [82, 101, 115, 116, 114, 105, 99, 116, 78, 97, 109, 101, 115, 112, 97, 99, 101, 115])), (.t 7)], none⟩,
    ⟨(some 5), .op (.mov (.t 8)), none⟩,
    ⟨(some 9), .op (.ext (.t 5) 0), none⟩,
    ⟨(some 10), .op (.ext (.t 5) 1), none⟩,
    ⟨(some 3), .op (.alloc [.nils, .i .u8 0, .nils, .i .u32 0, .i .u8 0, .nils, .nils, .i .u8 0, .i .u64 0, .b false, .b false, .b false, .b false]), none⟩,
    ⟨none, .op (.store 13 (.t 3) (.t 9)), none⟩,
    ⟨(some 4), .op (.mov (.t 10)), none⟩])
  (.seq (.reg false [⟨(some 11), .op (.fAddr 8 (.t 3)), none⟩,
    ⟨(some 12), .op (.load1 (.t 11)), none⟩,
    ⟨(some 2), .op (.mov (.t 12)), none⟩])
  (.ret)))⟩
-- vestibule/names.FamilyName
def i20 : IFn := ⟨[.tmp 2],
  .seq (.reg false [⟨(some 2), .op (.mov (.c (.s []))), none⟩])
  (.seq (.reg false [⟨(some 4), .callF 32 [], none⟩,
    ⟨(some 3), .op (.alloc [.s [], .i .u32 0, .s [], .i .u32 0, .s [], .i .u32 0, .s [], .i .u32 0, .s [], .i .u32 0, .s [], .i .u32 0, .s [], .i .u32 0, .s [], .i .u32 0]), none⟩,
    ⟨none, .op (.store 16 (.t 3) (.t 4)), none⟩])
  (.seq (.reg false [⟨(some 5), .op (.slcA 8 2 (.t 3) none none none), none⟩,
    ⟨(some 6), .op (.mov (.t 0)), none⟩,
    ⟨(some 7), .callF 33 [(.t 5), (.t 6)], none⟩,
    ⟨(some 2), .op (.mov (.t 7)), none⟩])
  (.ret)))⟩
-- vestibule/restrict.keys
def i21 : IFn := ⟨[.tmp 0],
  .seq (.reg false [⟨(some 0), .op (.mov (.c (.nilm))), none⟩])
  (.seq (.reg false [⟨(some 1), .op (.mkM), none⟩,
    ⟨none, .op (.updM none (.t 1) (.c (.s [83, 121, 115, 116, 101, 109, 67, 97, 108, 108, 65, 114, 99, 104, 105, 116, 101, 99, 116, 117, 114, 101, 115])) (.c (.fn 34 [] []))), none⟩,
    ⟨none, .op (.updM none (.t 1) (.c (.s [82, 101, 115, 116, 114, 105, 99, 116, 65, 100, 100, 114, 101, 115, 115, 70, 97, 109, 105, 108, 105, 101, 115])) (.c (.fn 35 [] []))), none⟩,
    ⟨none, .op (.updM none (.t 1) (.c (.s [82, 101, 115, 116, 114, 105, 99, 116, 78, 97, 109, 101, 115, 112, 97, 99, 101, 115])) (.c (.fn 36 [] []))), none⟩,
    ⟨none, .op (.updM none (.t 1) (.c (.s [77, 101, 109, 111, 114, 121, 68, 101, 110, 121, 87, 114, 105, 116, 101, 69, 120, 101, 99, 117, 116, 101])) (.c (.fn 37 [] []))), none⟩,
    ⟨none, .op (.updM none (.t 1) (.c (.s [76, 111, 99, 107, 80, 101, 114, 115, 111, 110, 97, 108, 105, 116, 121])) (.c (.fn 38 [] []))), none⟩,
    ⟨none, .op (.updM none (.t 1) (.c (.s [82, 101, 115, 116, 114, 105, 99, 116, 82, 101, 97, 108, 116, 105, 109, 101])) (.c (.fn 39 [] []))), none⟩,
    ⟨none, .op (.updM none (.t 1) (.c (.s [78, 111, 78, 101, 119, 80, 114, 105, 118, 105, 108, 101, 103, 101, 115])) (.c (.fn 40 [] []))), none⟩,
    ⟨(some 2), .op (.mov (.t 1)), none⟩,
    ⟨(some 0), .op (.mov (.t 2)), none⟩])
  (.ret))⟩
-- vestibule/vestibuleref18.Flag
def i22 : IFn := ⟨[.tmp 2],
  .seq (.reg false [⟨(some 2), .op (.mov (.c (.b false))), none⟩])
  (.seq (.reg false [⟨(some 3), .op (.mov (.t 0)), none⟩,
    ⟨(some 4), .op (.bin .eql (.t 3) (.c (.s [77, 101, 109, 111, 114, 121, 68, 101, 110, 121, 87, 114, 105, 116, 101, 69, 120, 101, 99, 117, 116, 101]))), none⟩,
    ⟨(some 5), .op (.mov (.t 4)), none⟩,
    ⟨(some 6), .op (.mov (.t 0)), (some (5, false))⟩,
    ⟨(some 7), .op (.bin .eql (.t 6) (.c (.s [76, 111, 99, 107, 80, 101, 114, 115, 111, 110, 97, 108, 105, 116, 121]))), (some (5, false))⟩,
    ⟨(some 8), .op (.pick (.t 5) (.c (.b true)) (.t 7)), none⟩,
    ⟨(some 9), .op (.mov (.t 8)), none⟩,
    ⟨(some 10), .op (.mov (.t 0)), (some (9, false))⟩,
    ⟨(some 11), .op (.bin .eql (.t 10) (.c (.s [82, 101, 115, 116, 114, 105, 99, 116, 82, 101, 97, 108, 116, 105, 109, 101]))), (some (9, false))⟩,
    ⟨(some 12), .op (.pick (.t 9) (.c (.b true)) (.t 11)), none⟩,
    ⟨(some 13), .op (.mov (.t 12)), none⟩,
    ⟨(some 14), .op (.mov (.t 0)), (some (13, false))⟩,
    ⟨(some 15), .op (.bin .eql (.t 14) (.c (.s [78, 111, 78, 101, 119, 80, 114, 105, 118, 105, 108, 101, 103, 101, 115]))), (some (13, false))⟩,
    ⟨(some 16), .op (.pick (.t 13) (.c (.b true)) (.t 15)), none⟩,
    ⟨(some 2), .op (.mov (.t 16)), none⟩])
  (.ret))⟩
-- vestibule/vestibulelaw16.Great
def i23 : IFn := ⟨[.tmp 2],
  .seq (.reg false [⟨(some 1), .op (.box (.t 0)), none⟩,
    ⟨(some 2), .op (.mov (.c (.b false))), none⟩])
  (.seq (.reg false [⟨(some 3), .op (.fAddr 1 (.t 1)), none⟩,
    ⟨(some 4), .op (.load1 (.t 3)), none⟩,
    ⟨(some 5), .op (.len false (.t 4)), none⟩,
    ⟨(some 6), .op (.bin .gtr (.t 5) (.c (.i .i64 100))), none⟩,
    ⟨(some 2), .op (.mov (.t 6)), none⟩])
  (.ret))⟩
-- vestibule/restrict.copied
def i24 : IFn := ⟨[.cell 2 13 true],
  .seq (.reg false [⟨(some 1), .op (.box (.t 0)), none⟩,
    ⟨(some 2), .op (.alloc [.nils, .i .u8 0, .nils, .i .u32 0, .i .u8 0, .nils, .nils, .i .u8 0, .i .u64 0, .b false, .b false, .b false, .b false]), none⟩])
  (.seq (.reg false [⟨(some 3), .op (.fAddr 0 (.t 1)), none⟩,
    ⟨(some 4), .op (.load1 (.t 3)), none⟩,
    ⟨(some 5), .callF 41 [(.t 4)], none⟩,
    ⟨(some 6), .op (.fAddr 0 (.t 1)), none⟩,
    ⟨none, .op (.store 1 (.t 6) (.t 5)), none⟩])
  (.seq (.reg false [⟨(some 7), .op (.fAddr 6 (.t 1)), none⟩,
    ⟨(some 8), .op (.load1 (.t 7)), none⟩,
    ⟨(some 9), .callF 42 [(.t 8)], none⟩,
    ⟨(some 10), .op (.fAddr 6 (.t 1)), none⟩,
    ⟨none, .op (.store 1 (.t 10) (.t 9)), none⟩])
  (.seq (.reg false [⟨(some 11), .op (.fAddr 1 (.t 1)), none⟩,
    ⟨(some 12), .op (.fAddr 1 (.t 11)), none⟩,
    ⟨(some 13), .op (.load1 (.t 12)), none⟩,
    ⟨(some 14), .callF 43 [(.t 13)], none⟩,
    ⟨(some 15), .op (.fAddr 1 (.t 1)), none⟩,
    ⟨(some 16), .op (.fAddr 1 (.t 15)), none⟩,
    ⟨none, .op (.store 1 (.t 16) (.t 14)), none⟩])
  (.seq (.reg false [⟨(some 17), .op (.fAddr 4 (.t 1)), none⟩,
    ⟨(some 18), .op (.fAddr 1 (.t 17)), none⟩,
    ⟨(some 19), .op (.load1 (.t 18)), none⟩,
    ⟨(some 20), .callF 43 [(.t 19)], none⟩,
    ⟨(some 21), .op (.fAddr 4 (.t 1)), none⟩,
    ⟨(some 22), .op (.fAddr 1 (.t 21)), none⟩,
    ⟨none, .op (.store 1 (.t 22) (.t 20)), none⟩])
  (.seq (.reg false [⟨(some 23), .op (.loadN 13 (.t 1)), none⟩,
    ⟨none, .op (.store 13 (.t 2) (.t 23)), none⟩])
  (.ret))))))⟩
-- vestibule/vestibulelaw16.Copied
def i25 : IFn := ⟨[.cell 2 2 true],
  .seq (.reg false [⟨(some 1), .op (.box (.t 0)), none⟩,
    ⟨(some 2), .op (.alloc [.i .u8 0, .nils]), none⟩])
  (.seq (.reg true [⟨(some 3), .op (.fAddr 0 (.t 1)), none⟩,
    ⟨(some 4), .op (.load1 (.t 3)), none⟩,
    ⟨(some 5), .op (.buildS 0 [.s [], .i .u32 0] []), none⟩,
    ⟨(some 6), .op (.fAddr 1 (.t 1)), none⟩,
    ⟨(some 7), .op (.load1 (.t 6)), none⟩,
    ⟨(some 8), .op (.appF 2 24 (.t 5) (.t 7)), none⟩,
    ⟨(some 9), .op (.build [.i .u8 0, .nils] [(0, 1, (.t 4)), (1, 1, (.t 8))]), none⟩,
    ⟨none, .op (.store 2 (.t 2) (.t 9)), none⟩])
  (.ret))⟩
-- strings.FieldsFunc
def i26 : IFn := ⟨[.tmp 4],
  .seq (.reg false [⟨(some 4), .op (.mov (.c (.nils))), none⟩])
  (.seq (.reg false [⟨(some 12), .op (.mkS 2 16 [.i .i64 0, .i .i64 0] (.c (.i .i64 0)) (.c (.i .i64 32))), none⟩,
    ⟨(some 5), .op (.mov (.t 12)), none⟩])
  (.seq (.reg false [⟨(some 6), .op (.mov (.c (.i .i64 (-1)))), none⟩])
  (.seq (.seq (.reg false [⟨(some 13), .op (.mov (.t 0)), none⟩,
    ⟨(some 14), .op (.rangeS (.t 13)), none⟩])
  (.blk 0 (.loop (.seq (.reg false [⟨(some 15), .op (.nextS (.t 14)), none⟩,
    ⟨(some 16), .op (.ext (.t 15) 0), none⟩])
  (.seq (.cond (.t 16) (.skip) (.exit 0))
  (.blk 1 (.seq (.reg false [⟨(some 17), .op (.ext (.t 15) 1), none⟩,
    ⟨(some 18), .op (.ext (.t 15) 2), none⟩,
    ⟨(some 7), .op (.mov (.t 17)), none⟩,
    ⟨(some 8), .op (.mov (.t 18)), none⟩])
  (.seq (.reg false [⟨(some 19), .op (.mov (.t 1)), none⟩,
    ⟨(some 20), .op (.mov (.t 8)), none⟩,
    ⟨(some 21), .callV (.t 19) [(.t 20)], none⟩])
  (.cond (.t 21) (.seq (.reg false [⟨(some 22), .op (.mov (.t 6)), none⟩,
    ⟨(some 23), .op (.bin .geq (.t 22) (.c (.i .i64 0))), none⟩])
  (.cond (.t 23) (.seq (.reg false [⟨(some 24), .op (.mov (.t 5)), none⟩,
    ⟨(some 25), .op (.mov (.t 6)), none⟩,
    ⟨(some 26), .op (.mov (.t 7)), none⟩,
    ⟨(some 27), .op (.build [.i .i64 0, .i .i64 0] [(0, 1, (.t 25)), (1, 1, (.t 26))]), none⟩,
    ⟨(some 28), .op (.buildS 1 [.i .i64 0, .i .i64 0] [(0, 2, (.t 27))]), none⟩,
    ⟨(some 29), .op (.app 2 16 true (.t 24) (.t 28)), none⟩,
    ⟨(some 5), .op (.mov (.t 29)), none⟩])
  (.reg false [⟨(some 30), .op (.mov (.t 6)), none⟩,
    ⟨(some 31), .op (.un .xor (.t 30)), none⟩,
    ⟨(some 6), .op (.mov (.t 31)), none⟩])) (.skip))) (.seq (.reg false [⟨(some 32), .op (.mov (.t 6)), none⟩,
    ⟨(some 33), .op (.bin .lss (.t 32) (.c (.i .i64 0))), none⟩])
  (.cond (.t 33) (.reg false [⟨(some 34), .op (.mov (.t 7)), none⟩,
    ⟨(some 6), .op (.mov (.t 34)), none⟩]) (.skip))))))))))))
  (.seq (.seq (.reg false [⟨(some 35), .op (.mov (.t 6)), none⟩,
    ⟨(some 36), .op (.bin .geq (.t 35) (.c (.i .i64 0))), none⟩])
  (.cond (.t 36) (.reg false [⟨(some 37), .op (.mov (.t 5)), none⟩,
    ⟨(some 38), .op (.mov (.t 6)), none⟩,
    ⟨(some 39), .op (.mov (.t 0)), none⟩,
    ⟨(some 40), .op (.len true (.t 39)), none⟩,
    ⟨(some 41), .op (.build [.i .i64 0, .i .i64 0] [(0, 1, (.t 38)), (1, 1, (.t 40))]), none⟩,
    ⟨(some 42), .op (.buildS 1 [.i .i64 0, .i .i64 0] [(0, 2, (.t 41))]), none⟩,
    ⟨(some 43), .op (.app 2 16 true (.t 37) (.t 42)), none⟩,
    ⟨(some 5), .op (.mov (.t 43)), none⟩]) (.skip)))
  (.seq (.reg false [⟨(some 44), .op (.mov (.t 5)), none⟩,
    ⟨(some 45), .op (.len false (.t 44)), none⟩,
    ⟨(some 46), .op (.mkS 1 16 [.s []] (.t 45) (.t 45)), none⟩,
    ⟨(some 9), .op (.mov (.t 46)), none⟩])
  (.seq (.seq (.reg false [⟨(some 47), .op (.mov (.t 5)), none⟩,
    ⟨(some 48), .op (.len false (.t 47)), none⟩,
    ⟨(some 49), .op (.mov (.c (.i .i64 0))), none⟩])
  (.blk 2 (.loop (.seq (.reg false [⟨(some 50), .op (.bin .lss (.t 49) (.t 48)), none⟩])
  (.seq (.cond (.t 50) (.skip) (.exit 2))
  (.seq (.blk 3 (.seq (.reg false [⟨(some 51), .op (.mov (.t 49)), none⟩,
    ⟨(some 52), .op (.iAddrS 2 (.t 47) (.t 49)), none⟩,
    ⟨(some 53), .op (.loadN 2 (.t 52)), none⟩,
    ⟨(some 11), .op (.alloc [.i .i64 0, .i .i64 0]), none⟩,
    ⟨(some 10), .op (.mov (.t 51)), none⟩,
    ⟨none, .op (.store 2 (.t 11) (.t 53)), none⟩])
  (.reg false [⟨(some 54), .op (.mov (.t 9)), none⟩,
    ⟨(some 55), .op (.mov (.t 10)), none⟩,
    ⟨(some 56), .op (.mov (.t 0)), none⟩,
    ⟨(some 57), .op (.fAddr 0 (.t 11)), none⟩,
    ⟨(some 58), .op (.load1 (.t 57)), none⟩,
    ⟨(some 59), .op (.fAddr 1 (.t 11)), none⟩,
    ⟨(some 60), .op (.load1 (.t 59)), none⟩,
    ⟨(some 61), .op (.slcStr (.t 56) (some (.t 58)) (some (.t 60))), none⟩,
    ⟨(some 62), .op (.iAddrS 1 (.t 54) (.t 55)), none⟩,
    ⟨none, .op (.store 1 (.t 62) (.t 61)), none⟩])))
  (.reg false [⟨(some 63), .op (.bin .add (.t 49) (.c (.i .i64 1))), none⟩,
    ⟨(some 49), .op (.mov (.t 63)), none⟩])))))))
  (.seq (.reg false [⟨(some 64), .op (.mov (.t 9)), none⟩,
    ⟨(some 4), .op (.mov (.t 64)), none⟩])
  (.ret))))))))⟩
-- vestibule/values.Words$1
def i27 : IFn := ⟨[.tmp 2],
  .seq (.reg false [⟨(some 2), .op (.mov (.c (.b false))), none⟩])
  (.seq (.reg false [⟨(some 3), .op (.mov (.t 0)), none⟩,
    ⟨(some 4), .op (.bin .eql (.t 3) (.c (.i .i32 32))), none⟩,
    ⟨(some 5), .op (.mov (.t 4)), none⟩,
    ⟨(some 6), .op (.mov (.t 0)), (some (5, false))⟩,
    ⟨(some 7), .op (.bin .eql (.t 6) (.c (.i .i32 9))), (some (5, false))⟩,
    ⟨(some 8), .op (.pick (.t 5) (.c (.b true)) (.t 7)), none⟩,
    ⟨(some 9), .op (.mov (.t 8)), none⟩,
    ⟨(some 10), .op (.mov (.t 0)), (some (9, false))⟩,
    ⟨(some 11), .op (.bin .eql (.t 10) (.c (.i .i32 13))), (some (9, false))⟩,
    ⟨(some 12), .op (.pick (.t 9) (.c (.b true)) (.t 11)), none⟩,
    ⟨(some 2), .op (.mov (.t 12)), none⟩])
  (.ret))⟩
-- vestibule/values.says
def i28 : IFn := ⟨[.cell 0 8 true],
  .seq (.reg false [⟨(some 0), .op (.alloc [.s [], .s [], .s [], .s [], .s [], .s [], .s [], .s []]), none⟩])
  (.seq (.reg false [⟨(some 1), .op (.build [.s [], .s [], .s [], .s []] [(0, 1, (.c (.s [110, 111]))), (1, 1, (.c (.s [102, 97, 108, 115, 101]))), (2, 1, (.c (.s [111, 102, 102]))), (3, 1, (.c (.s [48])))]), none⟩,
    ⟨(some 2), .op (.build [.s [], .s [], .s [], .s []] [(0, 1, (.c (.s [121, 101, 115]))), (1, 1, (.c (.s [116, 114, 117, 101]))), (2, 1, (.c (.s [111, 110]))), (3, 1, (.c (.s [49])))]), none⟩,
    ⟨(some 3), .op (.build [.s [], .s [], .s [], .s [], .s [], .s [], .s [], .s []] [(0, 4, (.t 1)), (4, 4, (.t 2))]), none⟩,
    ⟨none, .op (.store 8 (.t 0) (.t 3)), none⟩])
  (.ret))⟩
-- slices.Contains[[]string,string]
def i29 : IFn := ⟨[.tmp 4],
  .seq (.reg false [⟨(some 4), .op (.mov (.c (.b false))), none⟩])
  (.seq (.reg false [⟨(some 5), .op (.mov (.t 0)), none⟩,
    ⟨(some 6), .op (.mov (.t 1)), none⟩,
    ⟨(some 7), .callF 44 [(.t 5), (.t 6)], none⟩,
    ⟨(some 8), .op (.bin .geq (.t 7) (.c (.i .i64 0))), none⟩,
    ⟨(some 4), .op (.mov (.t 8)), none⟩])
  (.ret))⟩
-- strings.CutPrefix
def i30 : IFn := ⟨[.tmp 4, .tmp 5],
  .seq (.reg false [⟨(some 4), .op (.mov (.c (.s []))), none⟩,
    ⟨(some 5), .op (.mov (.c (.b false))), none⟩])
  (.seq (.reg false [⟨(some 6), .op (.mov (.t 0)), none⟩,
    ⟨(some 7), .op (.mov (.t 1)), none⟩,
    ⟨(some 8), .callF 45 [(.t 6), (.t 7)], none⟩,
    ⟨(some 9), .op (.ext (.t 8) 0), none⟩,
    ⟨(some 10), .op (.ext (.t 8) 1), none⟩,
    ⟨(some 4), .op (.mov (.t 9)), none⟩,
    ⟨(some 5), .op (.mov (.t 10)), none⟩])
  (.ret))⟩
-- vestibule/names.spaces
def i31 : IFn := ⟨[.cell 0 16 true],
  .seq (.reg false [⟨(some 0), .op (.alloc [.s [], .i .u64 0, .s [], .i .u64 0, .s [], .i .u64 0, .s [], .i .u64 0, .s [], .i .u64 0, .s [], .i .u64 0, .s [], .i .u64 0, .s [], .i .u64 0]), none⟩])
  (.seq (.reg false [⟨(some 1), .op (.build [.s [], .i .u64 0] [(0, 1, (.c (.s [116, 105, 109, 101]))), (1, 1, (.c (.i .u64 128)))]), none⟩,
    ⟨(some 2), .op (.build [.s [], .i .u64 0] [(0, 1, (.c (.s [109, 110, 116]))), (1, 1, (.c (.i .u64 131072)))]), none⟩,
    ⟨(some 3), .op (.build [.s [], .i .u64 0] [(0, 1, (.c (.s [99, 103, 114, 111, 117, 112]))), (1, 1, (.c (.i .u64 33554432)))]), none⟩,
    ⟨(some 4), .op (.build [.s [], .i .u64 0] [(0, 1, (.c (.s [117, 116, 115]))), (1, 1, (.c (.i .u64 67108864)))]), none⟩,
    ⟨(some 5), .op (.build [.s [], .i .u64 0] [(0, 1, (.c (.s [105, 112, 99]))), (1, 1, (.c (.i .u64 134217728)))]), none⟩,
    ⟨(some 6), .op (.build [.s [], .i .u64 0] [(0, 1, (.c (.s [117, 115, 101, 114]))), (1, 1, (.c (.i .u64 268435456)))]), none⟩,
    ⟨(some 7), .op (.build [.s [], .i .u64 0] [(0, 1, (.c (.s [112, 105, 100]))), (1, 1, (.c (.i .u64 536870912)))]), none⟩,
    ⟨(some 8), .op (.build [.s [], .i .u64 0] [(0, 1, (.c (.s [110, 101, 116]))), (1, 1, (.c (.i .u64 1073741824)))]), none⟩,
    ⟨(some 9), .op (.build [.s [], .i .u64 0, .s [], .i .u64 0, .s [], .i .u64 0, .s [], .i .u64 0, .s [], .i .u64 0, .s [], .i .u64 0, .s [], .i .u64 0, .s [], .i .u64 0] [(0, 2, (.t 1)), (2, 2, (.t 2)), (4, 2, (.t 3)), (6, 2, (.t 4)), (8, 2, (.t 5)), (10, 2, (.t 6)), (12, 2, (.t 7)), (14, 2, (.t 8))]), none⟩,
    ⟨none, .op (.store 16 (.t 0) (.t 9)), none⟩])
  (.ret))⟩
-- vestibule/names.families
def i32 : IFn := ⟨[.cell 0 16 true],
  .seq (.reg false [⟨(some 0), .op (.alloc [.s [], .i .u32 0, .s [], .i .u32 0, .s [], .i .u32 0, .s [], .i .u32 0, .s [], .i .u32 0, .s [], .i .u32 0, .s [], .i .u32 0, .s [], .i .u32 0]), none⟩])
  (.seq (.reg false [⟨(some 1), .op (.build [.s [], .i .u32 0] [(0, 1, (.c (.s [65, 70, 95, 85, 78, 73, 88]))), (1, 1, (.c (.i .u32 1)))]), none⟩,
    ⟨(some 2), .op (.build [.s [], .i .u32 0] [(0, 1, (.c (.s [65, 70, 95, 73, 78, 69, 84]))), (1, 1, (.c (.i .u32 2)))]), none⟩,
    ⟨(some 3), .op (.build [.s [], .i .u32 0] [(0, 1, (.c (.s [65, 70, 95, 73, 78, 69, 84, 54]))), (1, 1, (.c (.i .u32 10)))]), none⟩,
    ⟨(some 4), .op (.build [.s [], .i .u32 0] [(0, 1, (.c (.s [65, 70, 95, 78, 69, 84, 76, 73, 78, 75]))), (1, 1, (.c (.i .u32 16)))]), none⟩,
    ⟨(some 5), .op (.build [.s [], .i .u32 0] [(0, 1, (.c (.s [65, 70, 95, 80, 65, 67, 75, 69, 84]))), (1, 1, (.c (.i .u32 17)))]), none⟩,
    ⟨(some 6), .op (.build [.s [], .i .u32 0] [(0, 1, (.c (.s [65, 70, 95, 66, 76, 85, 69, 84, 79, 79, 84, 72]))), (1, 1, (.c (.i .u32 31)))]), none⟩,
    ⟨(some 7), .op (.build [.s [], .i .u32 0] [(0, 1, (.c (.s [65, 70, 95, 65, 76, 71]))), (1, 1, (.c (.i .u32 38)))]), none⟩,
    ⟨(some 8), .op (.build [.s [], .i .u32 0] [(0, 1, (.c (.s [65, 70, 95, 86, 83, 79, 67, 75]))), (1, 1, (.c (.i .u32 40)))]), none⟩,
    ⟨(some 9), .op (.build [.s [], .i .u32 0, .s [], .i .u32 0, .s [], .i .u32 0, .s [], .i .u32 0, .s [], .i .u32 0, .s [], .i .u32 0, .s [], .i .u32 0, .s [], .i .u32 0] [(0, 2, (.t 1)), (2, 2, (.t 2)), (4, 2, (.t 3)), (6, 2, (.t 4)), (8, 2, (.t 5)), (10, 2, (.t 6)), (12, 2, (.t 7)), (14, 2, (.t 8))]), none⟩,
    ⟨none, .op (.store 16 (.t 0) (.t 9)), none⟩])
  (.ret))⟩
-- vestibule/names.of[uint32]
def i33 : IFn := ⟨[.tmp 4],
  .seq (.reg false [⟨(some 4), .op (.mov (.c (.s []))), none⟩])
  (.seq (.seq (.reg false [⟨(some 7), .op (.mov (.t 0)), none⟩,
    ⟨(some 8), .op (.len false (.t 7)), none⟩,
    ⟨(some 9), .op (.mov (.c (.i .i64 0))), none⟩])
  (.blk 0 (.loop (.seq (.reg false [⟨(some 10), .op (.bin .lss (.t 9) (.t 8)), none⟩])
  (.seq (.cond (.t 10) (.skip) (.exit 0))
  (.seq (.blk 1 (.seq (.reg false [⟨(some 11), .op (.iAddrS 2 (.t 7) (.t 9)), none⟩,
    ⟨(some 12), .op (.loadN 2 (.t 11)), none⟩,
    ⟨(some 6), .op (.alloc [.s [], .i .u32 0]), none⟩,
    ⟨none, .op (.store 2 (.t 6) (.t 12)), none⟩])
  (.seq (.reg false [⟨(some 13), .op (.fAddr 1 (.t 6)), none⟩,
    ⟨(some 14), .op (.load1 (.t 13)), none⟩,
    ⟨(some 15), .op (.mov (.t 1)), none⟩,
    ⟨(some 16), .op (.bin .eql (.t 14) (.t 15)), none⟩])
  (.cond (.t 16) (.seq (.reg false [⟨(some 17), .op (.fAddr 0 (.t 6)), none⟩,
    ⟨(some 18), .op (.load1 (.t 17)), none⟩,
    ⟨(some 4), .op (.mov (.t 18)), none⟩])
  (.ret)) (.skip)))))
  (.reg false [⟨(some 19), .op (.bin .add (.t 9) (.c (.i .i64 1))), none⟩,
    ⟨(some 9), .op (.mov (.t 19)), none⟩])))))))
  (.seq (.reg false [⟨(some 4), .op (.mov (.c (.s []))), none⟩])
  (.ret)))⟩
-- (*vestibule/restrict.setter).arches
def i34 : IFn := ⟨[],
  .seq (.reg false [⟨(some 9), .op (.mov (.t 1)), none⟩,
    ⟨(some 10), .callF 14 [(.t 9)], none⟩,
    ⟨(some 4), .op (.mov (.t 10)), none⟩])
  (.seq (.seq (.reg false [⟨(some 11), .op (.mov (.t 4)), none⟩,
    ⟨(some 12), .op (.len false (.t 11)), none⟩,
    ⟨(some 13), .op (.bin .eql (.t 12) (.c (.i .i64 0))), none⟩])
  (.cond (.t 13) (.reg false [⟨(some 14), .op (.mov (.t 0)), none⟩,
    ⟨(some 15), .op (.nilChk (.t 14)), none⟩,
    ⟨(some 16), .op (.fAddr 0 (.t 15)), none⟩,
    ⟨(some 17), .op (.fAddr 0 (.t 16)), none⟩,
    ⟨none, .op (.store 1 (.t 17) (.c (.nils))), none⟩]) (.skip)))
  (.seq (.reg false [⟨(some 18), .op (.mov (.t 4)), none⟩,
    ⟨(some 19), .op (.len false (.t 18)), none⟩,
    ⟨(some 20), .op (.mov (.c (.i .i64 0))), none⟩])
  (.blk 0 (.loop (.seq (.reg false [⟨(some 21), .op (.bin .lss (.t 20) (.t 19)), none⟩])
  (.seq (.cond (.t 21) (.skip) (.exit 0))
  (.seq (.blk 1 (.seq (.reg false [⟨(some 22), .op (.iAddrS 1 (.t 18) (.t 20)), none⟩,
    ⟨(some 23), .op (.load1 (.t 22)), none⟩,
    ⟨(some 6), .op (.mov (.t 23)), none⟩])
  (.seq (.reg false [⟨(some 25), .op (.mov (.t 6)), none⟩,
    ⟨(some 26), .callF 46 [(.t 25)], none⟩,
    ⟨(some 24), .op (.mov (.t 26)), none⟩,
    ⟨(some 27), .op (.ext (.t 24) 0), none⟩,
    ⟨(some 28), .op (.ext (.t 24) 1), none⟩,
    ⟨(some 7), .op (.mov (.t 27)), none⟩,
    ⟨(some 8), .op (.mov (.t 28)), none⟩])
  (.seq (.reg false [⟨(some 29), .op (.mov (.t 8)), none⟩,
    ⟨(some 30), .op (.bin .neq (.t 29) (.c (.i .i64 0))), none⟩])
  (.cond (.t 30) (.reg false [⟨(some 31), .op (.mov (.t 0)), none⟩,
    ⟨(some 32), .op (.mov (.t 8)), none⟩,
    ⟨(some 33), .op (.mov (.t 6)), none⟩,
    ⟨(some 34), .callF 47 [(.t 31), (.t 32), (.t 33)], none⟩]) (.reg false [⟨(some 35), .op (.mov (.t 0)), none⟩,
    ⟨(some 36), .op (.mov (.t 0)), none⟩,
    ⟨(some 37), .op (.nilChk (.t 36)), none⟩,
    ⟨(some 38), .op (.fAddr 0 (.t 37)), none⟩,
    ⟨(some 39), .op (.fAddr 0 (.t 38)), none⟩,
    ⟨(some 40), .op (.load1 (.t 39)), none⟩,
    ⟨(some 41), .op (.mov (.t 7)), none⟩,
    ⟨(some 42), .callF 48 [(.t 40), (.t 41), (.c (.b true))], none⟩,
    ⟨(some 43), .op (.nilChk (.t 35)), none⟩,
    ⟨(some 44), .op (.fAddr 0 (.t 43)), none⟩,
    ⟨(some 45), .op (.fAddr 0 (.t 44)), none⟩,
    ⟨none, .op (.store 1 (.t 45) (.t 42)), none⟩]))))))
  (.reg false [⟨(some 46), .op (.bin .add (.t 20) (.c (.i .i64 1))), none⟩,
    ⟨(some 20), .op (.mov (.t 46)), none⟩]))))))))⟩
-- (*vestibule/restrict.setter).families
def i35 : IFn := ⟨[],
  .seq (.reg false [⟨(some 12), .op (.mov (.t 1)), none⟩,
    ⟨(some 13), .callF 16 [(.t 12)], none⟩,
    ⟨(some 11), .op (.mov (.t 13)), none⟩,
    ⟨(some 14), .op (.ext (.t 11) 0), none⟩,
    ⟨(some 15), .op (.ext (.t 11) 1), none⟩,
    ⟨(some 4), .op (.mov (.t 14)), none⟩,
    ⟨(some 5), .op (.mov (.t 15)), none⟩])
  (.seq (.seq (.reg false [⟨(some 16), .op (.mov (.t 1)), none⟩,
    ⟨(some 17), .callF 14 [(.t 16)], none⟩,
    ⟨(some 6), .op (.mov (.t 17)), none⟩])
  (.blk 0 (.seq (.reg false [⟨(some 19), .op (.mov (.t 6)), none⟩,
    ⟨(some 20), .op (.len false (.t 19)), none⟩,
    ⟨(some 21), .op (.bin .eql (.t 20) (.c (.i .i64 0))), none⟩,
    ⟨(some 18), .op (.mov (.t 21)), none⟩])
  (.cond (.t 18) (.seq (.reg false [⟨(some 22), .op (.mov (.t 0)), none⟩,
    ⟨(some 23), .op (.mov (.t 0)), none⟩,
    ⟨(some 24), .op (.nilChk (.t 22)), none⟩,
    ⟨(some 25), .op (.fAddr 0 (.t 24)), none⟩,
    ⟨(some 26), .op (.fAddr 6 (.t 25)), none⟩,
    ⟨none, .op (.store 1 (.t 26) (.c (.nils))), none⟩,
    ⟨(some 27), .op (.nilChk (.t 23)), none⟩,
    ⟨(some 28), .op (.fAddr 0 (.t 27)), none⟩,
    ⟨(some 29), .op (.fAddr 7 (.t 28)), none⟩,
    ⟨none, .op (.store 1 (.t 29) (.c (.i .u8 0))), none⟩])
  (.ret)) (.seq (.reg false [⟨(some 31), .op (.mov (.t 6)), none⟩,
    ⟨(some 32), .op (.len false (.t 31)), none⟩,
    ⟨(some 33), .op (.bin .eql (.t 32) (.c (.i .i64 1))), none⟩,
    ⟨(some 34), .op (.mov (.t 33)), none⟩,
    ⟨(some 35), .op (.mov (.t 6)), (some (34, true))⟩,
    ⟨(some 36), .op (.iAddrS 1 (.t 35) (.c (.i .i64 0))), (some (34, true))⟩,
    ⟨(some 37), .op (.load1 (.t 36)), (some (34, true))⟩,
    ⟨(some 38), .op (.bin .eql (.t 37) (.c (.s [110, 111, 110, 101]))), (some (34, true))⟩,
    ⟨(some 39), .op (.pick (.t 34) (.t 38) (.c (.b false))), none⟩,
    ⟨(some 30), .op (.mov (.t 39)), none⟩])
  (.cond (.t 30) (.seq (.reg false [⟨(some 40), .op (.mov (.t 0)), none⟩,
    ⟨(some 41), .op (.mov (.t 0)), none⟩,
    ⟨(some 42), .op (.nilChk (.t 40)), none⟩,
    ⟨(some 43), .op (.fAddr 0 (.t 42)), none⟩,
    ⟨(some 44), .op (.fAddr 6 (.t 43)), none⟩,
    ⟨none, .op (.store 1 (.t 44) (.c (.nils))), none⟩,
    ⟨(some 45), .op (.nilChk (.t 41)), none⟩,
    ⟨(some 46), .op (.fAddr 0 (.t 45)), none⟩,
    ⟨(some 47), .op (.fAddr 7 (.t 46)), none⟩,
    ⟨none, .op (.store 1 (.t 47) (.c (.i .u8 1))), none⟩])
  (.ret)) (.skip)))))))
  (.seq (.seq (.reg false [⟨(some 48), .op (.mov (.t 0)), none⟩,
    ⟨(some 49), .op (.nilChk (.t 48)), none⟩,
    ⟨(some 50), .op (.fAddr 0 (.t 49)), none⟩,
    ⟨(some 51), .op (.fAddr 7 (.t 50)), none⟩,
    ⟨(some 52), .op (.load1 (.t 51)), none⟩,
    ⟨(some 53), .op (.bin .eql (.t 52) (.c (.i .u8 0))), none⟩])
  (.cond (.t 53) (.seq (.reg false [⟨(some 54), .op (.mov (.t 0)), none⟩,
    ⟨(some 55), .op (.nilChk (.t 54)), none⟩,
    ⟨(some 56), .op (.fAddr 0 (.t 55)), none⟩,
    ⟨(some 57), .op (.fAddr 7 (.t 56)), none⟩,
    ⟨none, .op (.store 1 (.t 57) (.c (.i .u8 1))), none⟩])
  (.seq (.reg false [⟨(some 58), .op (.mov (.t 5)), none⟩])
  (.cond (.t 58) (.reg false [⟨(some 59), .op (.mov (.t 0)), none⟩,
    ⟨(some 60), .op (.nilChk (.t 59)), none⟩,
    ⟨(some 61), .op (.fAddr 0 (.t 60)), none⟩,
    ⟨(some 62), .op (.fAddr 7 (.t 61)), none⟩,
    ⟨none, .op (.store 1 (.t 62) (.c (.i .u8 2))), none⟩]) (.skip)))) (.skip)))
  (.seq (.reg false [⟨(some 63), .op (.mov (.t 4)), none⟩,
    ⟨(some 64), .callF 14 [(.t 63)], none⟩,
    ⟨(some 65), .op (.len false (.t 64)), none⟩,
    ⟨(some 66), .op (.mov (.c (.i .i64 0))), none⟩])
  (.blk 1 (.loop (.seq (.reg false [⟨(some 67), .op (.bin .lss (.t 66) (.t 65)), none⟩])
  (.seq (.cond (.t 67) (.skip) (.exit 1))
  (.seq (.blk 2 (.seq (.reg false [⟨(some 68), .op (.iAddrS 1 (.t 64) (.t 66)), none⟩,
    ⟨(some 69), .op (.load1 (.t 68)), none⟩,
    ⟨(some 8), .op (.mov (.t 69)), none⟩])
  (.seq (.reg false [⟨(some 71), .op (.mov (.t 8)), none⟩,
    ⟨(some 72), .callF 49 [(.t 71)], none⟩,
    ⟨(some 70), .op (.mov (.t 72)), none⟩,
    ⟨(some 73), .op (.ext (.t 70) 0), none⟩,
    ⟨(some 74), .op (.ext (.t 70) 1), none⟩,
    ⟨(some 9), .op (.mov (.t 73)), none⟩,
    ⟨(some 10), .op (.mov (.t 74)), none⟩])
  (.seq (.reg false [⟨(some 75), .op (.mov (.t 10)), none⟩,
    ⟨(some 76), .op (.bin .neq (.t 75) (.c (.i .i64 0))), none⟩])
  (.cond (.t 76) (.reg false [⟨(some 77), .op (.mov (.t 0)), none⟩,
    ⟨(some 78), .op (.mov (.t 10)), none⟩,
    ⟨(some 79), .op (.mov (.t 8)), none⟩,
    ⟨(some 80), .callF 47 [(.t 77), (.t 78), (.t 79)], none⟩]) (.reg true [⟨(some 81), .op (.mov (.t 0)), none⟩,
    ⟨(some 82), .op (.mov (.t 0)), none⟩,
    ⟨(some 83), .op (.nilChk (.t 82)), none⟩,
    ⟨(some 84), .op (.fAddr 0 (.t 83)), none⟩,
    ⟨(some 85), .op (.fAddr 6 (.t 84)), none⟩,
    ⟨(some 86), .op (.load1 (.t 85)), none⟩,
    ⟨(some 87), .op (.mov (.t 9)), none⟩,
    ⟨(some 88), .op (.mov (.t 5)), none⟩,
    ⟨(some 89), .op (.mov (.t 0)), none⟩,
    ⟨(some 90), .op (.nilChk (.t 89)), none⟩,
    ⟨(some 91), .op (.fAddr 0 (.t 90)), none⟩,
    ⟨(some 92), .op (.fAddr 7 (.t 91)), none⟩,
    ⟨(some 93), .op (.load1 (.t 92)), none⟩,
    ⟨(some 94), .op (.bin .eql (.t 93) (.c (.i .u8 2))), none⟩,
    ⟨(some 95), .op (.eqB false (.t 88) (.t 94)), none⟩,
    ⟨(some 96), .callF 50 [(.t 86), (.t 87), (.t 95)], none⟩,
    ⟨(some 97), .op (.nilChk (.t 81)), none⟩,
    ⟨(some 98), .op (.fAddr 0 (.t 97)), none⟩,
    ⟨(some 99), .op (.fAddr 6 (.t 98)), none⟩,
    ⟨none, .op (.store 1 (.t 99) (.t 96)), none⟩]))))))
  (.reg false [⟨(some 100), .op (.bin .add (.t 66) (.c (.i .i64 1))), none⟩,
    ⟨(some 66), .op (.mov (.t 100)), none⟩])))))))))⟩
-- (*vestibule/restrict.setter).namespaces
def i36 : IFn := ⟨[],
  .seq (.seq (.reg false [⟨(some 14), .op (.mov (.t 1)), none⟩,
    ⟨(some 15), .callF 14 [(.t 14)], none⟩,
    ⟨(some 16), .op (.len false (.t 15)), none⟩,
    ⟨(some 17), .op (.bin .eql (.t 16) (.c (.i .i64 0))), none⟩])
  (.cond (.t 17) (.seq (.reg false [⟨(some 18), .op (.mov (.t 0)), none⟩,
    ⟨(some 19), .op (.nilChk (.t 18)), none⟩,
    ⟨(some 20), .op (.fAddr 0 (.t 19)), none⟩,
    ⟨(some 21), .op (.fAddr 8 (.t 20)), none⟩,
    ⟨none, .op (.store 1 (.t 21) (.c (.i .u64 0))), none⟩])
  (.ret)) (.skip)))
  (.seq (.seq (.reg false [⟨(some 23), .op (.mov (.t 1)), none⟩,
    ⟨(some 24), .callF 15 [(.t 23)], none⟩,
    ⟨(some 22), .op (.mov (.t 24)), none⟩,
    ⟨(some 25), .op (.ext (.t 22) 0), none⟩,
    ⟨(some 26), .op (.ext (.t 22) 1), none⟩,
    ⟨(some 4), .op (.mov (.t 25)), none⟩,
    ⟨(some 5), .op (.mov (.t 26)), none⟩])
  (.seq (.reg false [⟨(some 27), .op (.mov (.t 5)), none⟩,
    ⟨(some 28), .op (.bin .eql (.t 27) (.c (.i .i64 0))), none⟩])
  (.cond (.t 28) (.seq (.reg false [⟨(some 29), .op (.mov (.t 0)), none⟩,
    ⟨(some 30), .op (.nilChk (.t 29)), none⟩,
    ⟨(some 31), .op (.fAddr 0 (.t 30)), none⟩,
    ⟨(some 32), .op (.fAddr 8 (.t 31)), none⟩,
    ⟨none, .op (.store 1 (.t 32) (.c (.i .u64 0))), none⟩])
  (.seq (.seq (.reg false [⟨(some 33), .op (.mov (.t 4)), none⟩])
  (.cond (.t 33) (.reg false [⟨(some 34), .op (.mov (.t 0)), none⟩,
    ⟨(some 35), .callF 18 [], none⟩,
    ⟨(some 36), .op (.nilChk (.t 34)), none⟩,
    ⟨(some 37), .op (.fAddr 0 (.t 36)), none⟩,
    ⟨(some 38), .op (.fAddr 8 (.t 37)), none⟩,
    ⟨none, .op (.store 1 (.t 38) (.t 35)), none⟩]) (.skip)))
  (.ret))) (.skip))))
  (.seq (.reg false [⟨(some 40), .op (.mov (.t 1)), none⟩,
    ⟨(some 41), .callF 16 [(.t 40)], none⟩,
    ⟨(some 39), .op (.mov (.t 41)), none⟩,
    ⟨(some 42), .op (.ext (.t 39) 0), none⟩,
    ⟨(some 43), .op (.ext (.t 39) 1), none⟩,
    ⟨(some 6), .op (.mov (.t 42)), none⟩,
    ⟨(some 7), .op (.mov (.t 43)), none⟩])
  (.seq (.reg false [⟨(some 8), .op (.mov (.c (.i .u64 0))), none⟩,
    ⟨(some 9), .op (.mov (.c (.b true))), none⟩])
  (.seq (.seq (.reg false [⟨(some 44), .op (.mov (.t 6)), none⟩,
    ⟨(some 45), .callF 14 [(.t 44)], none⟩,
    ⟨(some 46), .op (.len false (.t 45)), none⟩,
    ⟨(some 47), .op (.mov (.c (.i .i64 0))), none⟩])
  (.blk 0 (.loop (.seq (.reg false [⟨(some 48), .op (.bin .lss (.t 47) (.t 46)), none⟩])
  (.seq (.cond (.t 48) (.skip) (.exit 0))
  (.seq (.blk 1 (.seq (.reg false [⟨(some 49), .op (.iAddrS 1 (.t 45) (.t 47)), none⟩,
    ⟨(some 50), .op (.load1 (.t 49)), none⟩,
    ⟨(some 11), .op (.mov (.t 50)), none⟩])
  (.seq (.reg false [⟨(some 52), .op (.mov (.t 11)), none⟩,
    ⟨(some 53), .callF 51 [(.t 52)], none⟩,
    ⟨(some 51), .op (.mov (.t 53)), none⟩,
    ⟨(some 54), .op (.ext (.t 51) 0), none⟩,
    ⟨(some 55), .op (.ext (.t 51) 1), none⟩,
    ⟨(some 12), .op (.mov (.t 54)), none⟩,
    ⟨(some 13), .op (.mov (.t 55)), none⟩])
  (.seq (.seq (.reg false [⟨(some 56), .op (.mov (.t 13)), none⟩,
    ⟨(some 57), .op (.bin .neq (.t 56) (.c (.i .i64 0))), none⟩])
  (.cond (.t 57) (.seq (.reg false [⟨(some 58), .op (.mov (.t 0)), none⟩,
    ⟨(some 59), .op (.mov (.t 13)), none⟩,
    ⟨(some 60), .op (.mov (.t 11)), none⟩,
    ⟨(some 61), .callF 47 [(.t 58), (.t 59), (.t 60)], none⟩])
  (.reg false [⟨(some 9), .op (.mov (.c (.b false))), none⟩])) (.skip)))
  (.reg false [⟨(some 62), .op (.mov (.t 8)), none⟩,
    ⟨(some 63), .op (.mov (.t 12)), none⟩,
    ⟨(some 64), .op (.bin .or (.t 62) (.t 63)), none⟩,
    ⟨(some 8), .op (.mov (.t 64)), none⟩])))))
  (.reg false [⟨(some 65), .op (.bin .add (.t 47) (.c (.i .i64 1))), none⟩,
    ⟨(some 47), .op (.mov (.t 65)), none⟩])))))))
  (.blk 2 (.seq (.reg false [⟨(some 67), .op (.mov (.t 9)), none⟩,
    ⟨(some 68), .op (.mov (.t 67)), none⟩,
    ⟨(some 69), .op (.mov (.t 7)), (some (68, true))⟩,
    ⟨(some 70), .op (.pick (.t 68) (.t 69) (.c (.b false))), none⟩,
    ⟨(some 66), .op (.mov (.t 70)), none⟩])
  (.cond (.t 66) (.reg false [⟨(some 71), .op (.mov (.t 0)), none⟩,
    ⟨(some 72), .op (.mov (.t 8)), none⟩,
    ⟨(some 73), .op (.nilChk (.t 71)), none⟩,
    ⟨(some 74), .op (.fAddr 0 (.t 73)), none⟩,
    ⟨(some 75), .op (.fAddr 8 (.t 74)), none⟩,
    ⟨none, .op (.store 1 (.t 75) (.t 72)), none⟩]) (.seq (.reg false [⟨(some 77), .op (.mov (.t 9)), none⟩,
    ⟨(some 76), .op (.mov (.t 77)), none⟩])
  (.cond (.t 76) (.reg false [⟨(some 78), .op (.mov (.t 0)), none⟩,
    ⟨(some 79), .callF 18 [], none⟩,
    ⟨(some 80), .op (.mov (.t 8)), none⟩,
    ⟨(some 81), .op (.bin .andNot (.t 79) (.t 80)), none⟩,
    ⟨(some 82), .op (.nilChk (.t 78)), none⟩,
    ⟨(some 83), .op (.fAddr 0 (.t 82)), none⟩,
    ⟨(some 84), .op (.fAddr 8 (.t 83)), none⟩,
    ⟨none, .op (.store 1 (.t 84) (.t 81)), none⟩]) (.skip))))))))))⟩
-- (*vestibule/restrict.setter).writeExecute
def i37 : IFn := ⟨[],
  .reg false [⟨(some 4), .op (.mov (.t 0)), none⟩,
    ⟨(some 5), .op (.mov (.t 1)), none⟩,
    ⟨(some 6), .op (.mov (.t 0)), none⟩,
    ⟨(some 7), .op (.nilChk (.t 6)), none⟩,
    ⟨(some 8), .op (.fAddr 0 (.t 7)), none⟩,
    ⟨(some 9), .op (.fAddr 9 (.t 8)), none⟩,
    ⟨(some 10), .callF 52 [(.t 4), (.t 5), (.t 9)], none⟩]⟩
-- (*vestibule/restrict.setter).personality
def i38 : IFn := ⟨[],
  .reg false [⟨(some 4), .op (.mov (.t 0)), none⟩,
    ⟨(some 5), .op (.mov (.t 1)), none⟩,
    ⟨(some 6), .op (.mov (.t 0)), none⟩,
    ⟨(some 7), .op (.nilChk (.t 6)), none⟩,
    ⟨(some 8), .op (.fAddr 0 (.t 7)), none⟩,
    ⟨(some 9), .op (.fAddr 10 (.t 8)), none⟩,
    ⟨(some 10), .callF 52 [(.t 4), (.t 5), (.t 9)], none⟩]⟩
-- (*vestibule/restrict.setter).realtime
def i39 : IFn := ⟨[],
  .reg false [⟨(some 4), .op (.mov (.t 0)), none⟩,
    ⟨(some 5), .op (.mov (.t 1)), none⟩,
    ⟨(some 6), .op (.mov (.t 0)), none⟩,
    ⟨(some 7), .op (.nilChk (.t 6)), none⟩,
    ⟨(some 8), .op (.fAddr 0 (.t 7)), none⟩,
    ⟨(some 9), .op (.fAddr 11 (.t 8)), none⟩,
    ⟨(some 10), .callF 52 [(.t 4), (.t 5), (.t 9)], none⟩]⟩
-- (*vestibule/restrict.setter).noPrivileges
def i40 : IFn := ⟨[],
  .reg false [⟨(some 4), .op (.mov (.t 0)), none⟩,
    ⟨(some 5), .op (.mov (.t 1)), none⟩,
    ⟨(some 6), .op (.mov (.t 0)), none⟩,
    ⟨(some 7), .op (.nilChk (.t 6)), none⟩,
    ⟨(some 8), .op (.fAddr 0 (.t 7)), none⟩,
    ⟨(some 9), .op (.fAddr 12 (.t 8)), none⟩,
    ⟨(some 10), .callF 52 [(.t 4), (.t 5), (.t 9)], none⟩]⟩
-- slices.Clone[[]int,int]
def i41 : IFn := ⟨[.tmp 2],
  .seq (.reg false [⟨(some 2), .op (.mov (.c (.nils))), none⟩])
  (.seq (.seq (.reg false [⟨(some 3), .op (.mov (.t 0)), none⟩,
    ⟨(some 4), .op (.eqN false .slice (.t 3)), none⟩])
  (.cond (.t 4) (.seq (.reg false [⟨(some 2), .op (.mov (.c (.nils))), none⟩])
  (.ret)) (.skip)))
  (.seq (.reg false [⟨(some 5), .op (.buildS 0 [.i .i64 0] []), none⟩,
    ⟨(some 6), .op (.mov (.t 0)), none⟩,
    ⟨(some 7), .op (.app 1 8 false (.t 5) (.t 6)), none⟩,
    ⟨(some 2), .op (.mov (.t 7)), none⟩])
  (.ret)))⟩
-- slices.Clone[[]uint32,uint32]
def i42 : IFn := ⟨[.tmp 2],
  .seq (.reg false [⟨(some 2), .op (.mov (.c (.nils))), none⟩])
  (.seq (.seq (.reg false [⟨(some 3), .op (.mov (.t 0)), none⟩,
    ⟨(some 4), .op (.eqN false .slice (.t 3)), none⟩])
  (.cond (.t 4) (.seq (.reg false [⟨(some 2), .op (.mov (.c (.nils))), none⟩])
  (.ret)) (.skip)))
  (.seq (.reg false [⟨(some 5), .op (.buildS 0 [.i .u32 0] []), none⟩,
    ⟨(some 6), .op (.mov (.t 0)), none⟩,
    ⟨(some 7), .op (.app 1 4 false (.t 5) (.t 6)), none⟩,
    ⟨(some 2), .op (.mov (.t 7)), none⟩])
  (.ret)))⟩
-- slices.Clone[[]vestibule/api.Call,vestibule/api.Call]
def i43 : IFn := ⟨[.tmp 2],
  .seq (.reg false [⟨(some 2), .op (.mov (.c (.nils))), none⟩])
  (.seq (.seq (.reg false [⟨(some 3), .op (.mov (.t 0)), none⟩,
    ⟨(some 4), .op (.eqN false .slice (.t 3)), none⟩])
  (.cond (.t 4) (.seq (.reg false [⟨(some 2), .op (.mov (.c (.nils))), none⟩])
  (.ret)) (.skip)))
  (.seq (.reg false [⟨(some 5), .op (.buildS 0 [.s [], .i .u32 0] []), none⟩,
    ⟨(some 6), .op (.mov (.t 0)), none⟩,
    ⟨(some 7), .op (.app 2 24 false (.t 5) (.t 6)), none⟩,
    ⟨(some 2), .op (.mov (.t 7)), none⟩])
  (.ret)))⟩
-- slices.Index[[]string,string]
def i44 : IFn := ⟨[.tmp 4],
  .seq (.reg false [⟨(some 4), .op (.mov (.c (.i .i64 0))), none⟩])
  (.seq (.seq (.reg false [⟨(some 6), .op (.mov (.t 0)), none⟩,
    ⟨(some 7), .op (.len false (.t 6)), none⟩,
    ⟨(some 8), .op (.mov (.c (.i .i64 0))), none⟩])
  (.blk 0 (.loop (.seq (.reg false [⟨(some 9), .op (.bin .lss (.t 8) (.t 7)), none⟩])
  (.seq (.cond (.t 9) (.skip) (.exit 0))
  (.seq (.blk 1 (.seq (.reg false [⟨(some 10), .op (.mov (.t 8)), none⟩,
    ⟨(some 5), .op (.mov (.t 10)), none⟩])
  (.seq (.reg false [⟨(some 11), .op (.mov (.t 1)), none⟩,
    ⟨(some 12), .op (.mov (.t 0)), none⟩,
    ⟨(some 13), .op (.mov (.t 5)), none⟩,
    ⟨(some 14), .op (.iAddrS 1 (.t 12) (.t 13)), none⟩,
    ⟨(some 15), .op (.load1 (.t 14)), none⟩,
    ⟨(some 16), .op (.bin .eql (.t 11) (.t 15)), none⟩])
  (.cond (.t 16) (.seq (.reg false [⟨(some 17), .op (.mov (.t 5)), none⟩,
    ⟨(some 4), .op (.mov (.t 17)), none⟩])
  (.ret)) (.skip)))))
  (.reg false [⟨(some 18), .op (.bin .add (.t 8) (.c (.i .i64 1))), none⟩,
    ⟨(some 8), .op (.mov (.t 18)), none⟩])))))))
  (.seq (.reg false [⟨(some 4), .op (.mov (.c (.i .i64 (-1)))), none⟩])
  (.ret)))⟩
-- internal/stringslite.CutPrefix
def i45 : IFn := ⟨[.tmp 4, .tmp 5],
  .seq (.reg false [⟨(some 4), .op (.mov (.c (.s []))), none⟩,
    ⟨(some 5), .op (.mov (.c (.b false))), none⟩])
  (.seq (.seq (.reg false [⟨(some 6), .op (.mov (.t 0)), none⟩,
    ⟨(some 7), .op (.mov (.t 1)), none⟩,
    ⟨(some 8), .callF 53 [(.t 6), (.t 7)], none⟩,
    ⟨(some 9), .op (.un .not (.t 8)), none⟩])
  (.cond (.t 9) (.seq (.reg false [⟨(some 10), .op (.mov (.t 0)), none⟩,
    ⟨(some 4), .op (.mov (.t 10)), none⟩,
    ⟨(some 5), .op (.mov (.c (.b false))), none⟩])
  (.ret)) (.skip)))
  (.seq (.reg false [⟨(some 11), .op (.mov (.t 0)), none⟩,
    ⟨(some 12), .op (.mov (.t 1)), none⟩,
    ⟨(some 13), .op (.len true (.t 12)), none⟩,
    ⟨(some 14), .op (.slcStr (.t 11) (some (.t 13)) none), none⟩,
    ⟨(some 4), .op (.mov (.t 14)), none⟩,
    ⟨(some 5), .op (.mov (.c (.b true))), none⟩])
  (.ret)))⟩
-- vestibule/arch.Parse
def i46 : IFn := ⟨[.tmp 2, .tmp 3],
  .seq (.reg false [⟨(some 1), .op (.box (.t 0)), none⟩,
    ⟨(some 2), .op (.mov (.c (.i .i64 0))), none⟩,
    ⟨(some 3), .op (.mov (.c (.i .i64 0))), none⟩])
  (.seq (.seq (.reg false [⟨(some 5), .op (.load1 (.t 1)), none⟩,
    ⟨(some 6), .op (.bin .eql (.t 5) (.c (.s [110, 97, 116, 105, 118, 101]))), none⟩])
  (.cond (.t 6) (.seq (.reg false [⟨(some 2), .op (.mov (.c (.i .i64 0))), none⟩,
    ⟨(some 3), .op (.mov (.c (.i .i64 0))), none⟩])
  (.ret)) (.skip)))
  (.seq (.reg false [⟨(some 7), .op (.mkF 55 [] [(.t 1)]), none⟩,
    ⟨(some 8), .callF 54 [(.t 7)], none⟩,
    ⟨(some 4), .op (.mov (.t 8)), none⟩])
  (.seq (.seq (.reg false [⟨(some 9), .op (.mov (.t 4)), none⟩,
    ⟨(some 10), .op (.bin .lss (.t 9) (.c (.i .i64 0))), none⟩])
  (.cond (.t 10) (.seq (.reg false [⟨(some 2), .op (.mov (.c (.i .i64 0))), none⟩,
    ⟨(some 3), .op (.mov (.c (.i .i64 80))), none⟩])
  (.ret)) (.skip)))
  (.seq (.reg false [⟨(some 11), .op (.mov (.t 4)), none⟩,
    ⟨(some 2), .op (.mov (.t 11)), none⟩,
    ⟨(some 3), .op (.mov (.c (.i .i64 0))), none⟩])
  (.ret)))))⟩
end Go.Proofs.Ytbcpapkjdphfpaa.Ir
