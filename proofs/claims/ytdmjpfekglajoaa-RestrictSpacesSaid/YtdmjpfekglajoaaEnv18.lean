-- lacking 165
-- lacking 160
/- The code that a run reaches, as the abstract machine's; it is the program's. No condition. -/

import Derived.Test.YtdmjpfekglajoaaK5
import Derived.Test.YtdmjpfekglajoaaProg
import Derived.KernelRfl
namespace Go.Proofs.Ytdmjpfekglajoaa.Env
open Go.Kc
-- vestibule/values.Words
def e15 : IFn := ⟨[.tmp 2],
  .seq (.reg false [⟨(some 2), .op (.mov (.c (.nils))), none⟩])
  (.seq (.reg false [⟨(some 3), .op (.mov (.t 0)), none⟩,
    ⟨(some 4), .callF 50 [(.t 3), (.c (.fn 51 [] []))], none⟩,
    ⟨(some 2), .op (.mov (.t 4)), none⟩])
  (.ret))⟩
theorem c15 : chkFn Try.prog 15 e15 = true := by kernel_rfl
-- vestibule/values.Turned
def e16 : IFn := ⟨[.tmp 2, .tmp 3],
  .seq (.reg false [⟨(some 2), .op (.mov (.c (.s []))), none⟩,
    ⟨(some 3), .op (.mov (.c (.b false))), none⟩])
  (.seq (.reg false [⟨(some 4), .op (.mov (.t 0)), none⟩,
    ⟨(some 5), .callF 52 [(.t 4), (.c (.s [126]))], none⟩,
    ⟨(some 6), .op (.ext (.t 5) 0), none⟩,
    ⟨(some 7), .op (.ext (.t 5) 1), none⟩,
    ⟨(some 2), .op (.mov (.t 6)), none⟩,
    ⟨(some 3), .op (.mov (.t 7)), none⟩])
  (.ret))⟩
theorem c16 : chkFn Try.prog 16 e16 = true := by kernel_rfl
-- vestibule/vestibulelaw18.awake
def e33 : IFn := ⟨[.tmp 0],
  .seq (.reg false [⟨(some 0), .op (.mov (.c (.b false))), none⟩])
  (.seq (.reg false [⟨(some 18), .op (.buildS 2 [.s []] [(0, 1, (.c (.s [110, 97, 116, 105, 118, 101, 32, 120, 56, 54]))), (1, 1, (.c (.s [118, 97, 120])))]), none⟩,
    ⟨(some 19), .callF 37 [(.c (.s [83, 121, 115, 116, 101, 109, 67, 97, 108, 108, 65, 114, 99, 104, 105, 116, 101, 99, 116, 117, 114, 101, 115])), (.t 18)], none⟩,
    ⟨(some 17), .op (.mov (.t 19)), none⟩,
    ⟨(some 20), .op (.ext (.t 17) 0), none⟩,
    ⟨(some 21), .op (.ext (.t 17) 1), none⟩,
    ⟨(some 1), .op (.alloc [.nils, .i .u8 0, .nils, .i .u32 0, .i .u8 0, .nils, .nils, .i .u8 0, .i .u64 0, .b false, .b false, .b false, .b false]), none⟩,
    ⟨none, .op (.store 13 (.t 1) (.t 20)), none⟩,
    ⟨(some 2), .op (.mov (.t 21)), none⟩])
  (.seq (.reg false [⟨(some 23), .op (.buildS 2 [.s []] [(0, 1, (.c (.s [65, 70, 95, 85, 78, 73, 88, 32, 65, 70, 95, 73, 78, 69, 84]))), (1, 1, (.c (.s [126, 65, 70, 95, 85, 78, 73, 88])))]), none⟩,
    ⟨(some 24), .callF 37 [(.c (.s [82, 101, 115, 116, 114, 105, 99, 116, 65, 100, 100, 114, 101, 115, 115, 70, 97, 109, 105, 108, 105, 101, 115])), (.t 23)], none⟩,
    ⟨(some 22), .op (.mov (.t 24)), none⟩,
    ⟨(some 25), .op (.ext (.t 22) 0), none⟩,
    ⟨(some 26), .op (.ext (.t 22) 1), none⟩,
    ⟨(some 3), .op (.alloc [.nils, .i .u8 0, .nils, .i .u32 0, .i .u8 0, .nils, .nils, .i .u8 0, .i .u64 0, .b false, .b false, .b false, .b false]), none⟩,
    ⟨none, .op (.store 13 (.t 3) (.t 25)), none⟩,
    ⟨(some 4), .op (.mov (.t 26)), none⟩])
  (.seq (.reg false [⟨(some 28), .op (.buildS 1 [.s []] [(0, 1, (.c (.s [126, 65, 70, 95, 73, 78, 69, 84])))]), none⟩,
    ⟨(some 29), .callF 37 [(.c (.s [82, 101, 115, 116, 114, 105, 99, 116, 65, 100, 100, 114, 101, 115, 115, 70, 97, 109, 105, 108, 105, 101, 115])), (.t 28)], none⟩,
    ⟨(some 27), .op (.mov (.t 29)), none⟩,
    ⟨(some 30), .op (.ext (.t 27) 0), none⟩,
    ⟨(some 31), .op (.ext (.t 27) 1), none⟩,
    ⟨(some 5), .op (.alloc [.nils, .i .u8 0, .nils, .i .u32 0, .i .u8 0, .nils, .nils, .i .u8 0, .i .u64 0, .b false, .b false, .b false, .b false]), none⟩,
    ⟨none, .op (.store 13 (.t 5) (.t 30)), none⟩,
    ⟨(some 6), .op (.mov (.t 31)), none⟩])
  (.seq (.reg false [⟨(some 33), .op (.buildS 1 [.s []] [(0, 1, (.c (.s [110, 111, 110, 101])))]), none⟩,
    ⟨(some 34), .callF 37 [(.c (.s [82, 101, 115, 116, 114, 105, 99, 116, 65, 100, 100, 114, 101, 115, 115, 70, 97, 109, 105, 108, 105, 101, 115])), (.t 33)], none⟩,
    ⟨(some 32), .op (.mov (.t 34)), none⟩,
    ⟨(some 35), .op (.ext (.t 32) 0), none⟩,
    ⟨(some 36), .op (.ext (.t 32) 1), none⟩,
    ⟨(some 7), .op (.alloc [.nils, .i .u8 0, .nils, .i .u32 0, .i .u8 0, .nils, .nils, .i .u8 0, .i .u64 0, .b false, .b false, .b false, .b false]), none⟩,
    ⟨none, .op (.store 13 (.t 7) (.t 35)), none⟩,
    ⟨(some 8), .op (.mov (.t 36)), none⟩])
  (.seq (.reg false [⟨(some 38), .op (.buildS 2 [.s []] [(0, 1, (.c (.s [121, 101, 115]))), (1, 1, (.c (.s [100, 105, 115, 107])))]), none⟩,
    ⟨(some 39), .callF 37 [(.c (.s [82, 101, 115, 116, 114, 105, 99, 116, 78, 97, 109, 101, 115, 112, 97, 99, 101, 115])), (.t 38)], none⟩,
    ⟨(some 37), .op (.mov (.t 39)), none⟩,
    ⟨(some 40), .op (.ext (.t 37) 0), none⟩,
    ⟨(some 41), .op (.ext (.t 37) 1), none⟩,
    ⟨(some 9), .op (.alloc [.nils, .i .u8 0, .nils, .i .u32 0, .i .u8 0, .nils, .nils, .i .u8 0, .i .u64 0, .b false, .b false, .b false, .b false]), none⟩,
    ⟨none, .op (.store 13 (.t 9) (.t 40)), none⟩,
    ⟨(some 10), .op (.mov (.t 41)), none⟩])
  (.seq (.reg false [⟨(some 43), .op (.buildS 1 [.s []] [(0, 1, (.c (.s [111, 110])))]), none⟩,
    ⟨(some 44), .callF 37 [(.c (.s [76, 111, 99, 107, 80, 101, 114, 115, 111, 110, 97, 108, 105, 116, 121])), (.t 43)], none⟩,
    ⟨(some 42), .op (.mov (.t 44)), none⟩,
    ⟨(some 45), .op (.ext (.t 42) 0), none⟩,
    ⟨(some 46), .op (.ext (.t 42) 1), none⟩,
    ⟨(some 11), .op (.alloc [.nils, .i .u8 0, .nils, .i .u32 0, .i .u8 0, .nils, .nils, .i .u8 0, .i .u64 0, .b false, .b false, .b false, .b false]), none⟩,
    ⟨none, .op (.store 13 (.t 11) (.t 45)), none⟩,
    ⟨(some 12), .op (.mov (.t 46)), none⟩])
  (.seq (.reg false [⟨(some 48), .op (.buildS 2 [.s []] [(0, 1, (.c (.s [111, 110]))), (1, 1, (.c (.s [109, 97, 121, 98, 101])))]), none⟩,
    ⟨(some 49), .callF 37 [(.c (.s [76, 111, 99, 107, 80, 101, 114, 115, 111, 110, 97, 108, 105, 116, 121])), (.t 48)], none⟩,
    ⟨(some 47), .op (.mov (.t 49)), none⟩,
    ⟨(some 50), .op (.ext (.t 47) 0), none⟩,
    ⟨(some 51), .op (.ext (.t 47) 1), none⟩,
    ⟨(some 13), .op (.alloc [.nils, .i .u8 0, .nils, .i .u32 0, .i .u8 0, .nils, .nils, .i .u8 0, .i .u64 0, .b false, .b false, .b false, .b false]), none⟩,
    ⟨none, .op (.store 13 (.t 13) (.t 50)), none⟩,
    ⟨(some 14), .op (.mov (.t 51)), none⟩])
  (.seq (.reg false [⟨(some 53), .op (.buildS 2 [.s []] [(0, 1, (.c (.s [111, 110]))), (1, 1, (.c (.s [])))]), none⟩,
    ⟨(some 54), .callF 37 [(.c (.s [76, 111, 99, 107, 80, 101, 114, 115, 111, 110, 97, 108, 105, 116, 121])), (.t 53)], none⟩,
    ⟨(some 52), .op (.mov (.t 54)), none⟩,
    ⟨(some 55), .op (.ext (.t 52) 0), none⟩,
    ⟨(some 56), .op (.ext (.t 52) 1), none⟩,
    ⟨(some 15), .op (.alloc [.nils, .i .u8 0, .nils, .i .u32 0, .i .u8 0, .nils, .nils, .i .u8 0, .i .u64 0, .b false, .b false, .b false, .b false]), none⟩,
    ⟨none, .op (.store 13 (.t 15) (.t 55)), none⟩,
    ⟨(some 16), .op (.mov (.t 56)), none⟩])
  (.seq (.seq (.reg false [⟨(some 57), .op (.fAddr 0 (.t 1)), none⟩,
    ⟨(some 58), .op (.load1 (.t 57)), none⟩,
    ⟨(some 59), .op (.len false (.t 58)), none⟩,
    ⟨(some 60), .op (.bin .neq (.t 59) (.c (.i .i64 2))), none⟩,
    ⟨(some 61), .op (.mov (.t 60)), none⟩,
    ⟨(some 62), .op (.fAddr 0 (.t 1)), (some (61, false))⟩,
    ⟨(some 63), .op (.load1 (.t 62)), (some (61, false))⟩,
    ⟨(some 64), .op (.iAddrS 1 (.t 63) (.c (.i .i64 0))), (some (61, false))⟩,
    ⟨(some 65), .op (.load1 (.t 64)), (some (61, false))⟩,
    ⟨(some 66), .op (.bin .neq (.t 65) (.c (.i .i64 0))), (some (61, false))⟩,
    ⟨(some 67), .op (.pick (.t 61) (.c (.b true)) (.t 66)), none⟩,
    ⟨(some 68), .op (.mov (.t 67)), none⟩,
    ⟨(some 69), .op (.fAddr 0 (.t 1)), (some (68, false))⟩,
    ⟨(some 70), .op (.load1 (.t 69)), (some (68, false))⟩,
    ⟨(some 71), .op (.iAddrS 1 (.t 70) (.c (.i .i64 1))), (some (68, false))⟩,
    ⟨(some 72), .op (.load1 (.t 71)), (some (68, false))⟩,
    ⟨(some 73), .op (.bin .neq (.t 72) (.c (.i .i64 1))), (some (68, false))⟩,
    ⟨(some 74), .op (.pick (.t 68) (.c (.b true)) (.t 73)), none⟩,
    ⟨(some 75), .op (.mov (.t 74)), none⟩,
    ⟨(some 76), .op (.mov (.t 2)), (some (75, false))⟩,
    ⟨(some 77), .op (.bin .neq (.t 76) (.c (.i .i64 1))), (some (75, false))⟩,
    ⟨(some 78), .op (.pick (.t 75) (.c (.b true)) (.t 77)), none⟩,
    ⟨(some 79), .op (.mov (.t 78)), none⟩,
    ⟨(some 80), .op (.fAddr 6 (.t 3)), (some (79, false))⟩,
    ⟨(some 81), .op (.load1 (.t 80)), (some (79, false))⟩,
    ⟨(some 82), .op (.len false (.t 81)), (some (79, false))⟩,
    ⟨(some 83), .op (.bin .neq (.t 82) (.c (.i .i64 1))), (some (79, false))⟩,
    ⟨(some 84), .op (.pick (.t 79) (.c (.b true)) (.t 83)), none⟩,
    ⟨(some 85), .op (.mov (.t 84)), none⟩,
    ⟨(some 86), .op (.fAddr 6 (.t 3)), (some (85, false))⟩,
    ⟨(some 87), .op (.load1 (.t 86)), (some (85, false))⟩,
    ⟨(some 88), .op (.iAddrS 1 (.t 87) (.c (.i .i64 0))), (some (85, false))⟩,
    ⟨(some 89), .op (.load1 (.t 88)), (some (85, false))⟩,
    ⟨(some 90), .op (.bin .neq (.t 89) (.c (.i .u32 2))), (some (85, false))⟩,
    ⟨(some 91), .op (.pick (.t 85) (.c (.b true)) (.t 90)), none⟩,
    ⟨(some 92), .op (.mov (.t 91)), none⟩,
    ⟨(some 93), .op (.fAddr 7 (.t 3)), (some (92, false))⟩,
    ⟨(some 94), .op (.load1 (.t 93)), (some (92, false))⟩,
    ⟨(some 95), .op (.bin .neq (.t 94) (.c (.i .u8 1))), (some (92, false))⟩,
    ⟨(some 96), .op (.pick (.t 92) (.c (.b true)) (.t 95)), none⟩,
    ⟨(some 97), .op (.mov (.t 96)), none⟩,
    ⟨(some 98), .op (.fAddr 6 (.t 5)), (some (97, false))⟩,
    ⟨(some 99), .op (.load1 (.t 98)), (some (97, false))⟩,
    ⟨(some 100), .op (.len false (.t 99)), (some (97, false))⟩,
    ⟨(some 101), .op (.bin .neq (.t 100) (.c (.i .i64 1))), (some (97, false))⟩,
    ⟨(some 102), .op (.pick (.t 97) (.c (.b true)) (.t 101)), none⟩,
    ⟨(some 103), .op (.mov (.t 102)), none⟩,
    ⟨(some 104), .op (.fAddr 7 (.t 5)), (some (103, false))⟩,
    ⟨(some 105), .op (.load1 (.t 104)), (some (103, false))⟩,
    ⟨(some 106), .op (.bin .neq (.t 105) (.c (.i .u8 2))), (some (103, false))⟩,
    ⟨(some 107), .op (.pick (.t 103) (.c (.b true)) (.t 106)), none⟩,
    ⟨(some 108), .op (.mov (.t 107)), none⟩,
    ⟨(some 109), .op (.fAddr 6 (.t 7)), (some (108, false))⟩,
    ⟨(some 110), .op (.load1 (.t 109)), (some (108, false))⟩,
    ⟨(some 111), .op (.len false (.t 110)), (some (108, false))⟩,
    ⟨(some 112), .op (.bin .neq (.t 111) (.c (.i .i64 0))), (some (108, false))⟩,
    ⟨(some 113), .op (.pick (.t 108) (.c (.b true)) (.t 112)), none⟩,
    ⟨(some 114), .op (.mov (.t 113)), none⟩,
    ⟨(some 115), .op (.fAddr 7 (.t 7)), (some (114, false))⟩,
    ⟨(some 116), .op (.load1 (.t 115)), (some (114, false))⟩,
    ⟨(some 117), .op (.bin .neq (.t 116) (.c (.i .u8 1))), (some (114, false))⟩,
    ⟨(some 118), .op (.pick (.t 114) (.c (.b true)) (.t 117)), none⟩])
  (.cond (.t 118) (.seq (.reg false [⟨(some 0), .op (.mov (.c (.b false))), none⟩])
  (.ret)) (.skip)))
  (.seq (.reg false [⟨(some 119), .op (.fAddr 8 (.t 9)), none⟩,
    ⟨(some 120), .op (.load1 (.t 119)), none⟩,
    ⟨(some 121), .op (.bin .eql (.t 120) (.c (.i .u64 2114060416))), none⟩,
    ⟨(some 122), .op (.mov (.t 121)), none⟩,
    ⟨(some 123), .op (.mov (.t 10)), (some (122, true))⟩,
    ⟨(some 124), .op (.bin .eql (.t 123) (.c (.i .i64 1))), (some (122, true))⟩,
    ⟨(some 125), .op (.pick (.t 122) (.t 124) (.c (.b false))), none⟩,
    ⟨(some 126), .op (.mov (.t 125)), none⟩,
    ⟨(some 127), .callF 39 [(.c (.s [110, 101, 116, 32, 112, 105, 100]))], (some (126, true))⟩,
    ⟨(some 128), .op (.bin .eql (.t 127) (.c (.i .u64 503447680))), (some (126, true))⟩,
    ⟨(some 129), .op (.pick (.t 126) (.t 128) (.c (.b false))), none⟩,
    ⟨(some 130), .op (.mov (.t 129)), none⟩,
    ⟨(some 131), .callF 39 [(.c (.s [126, 110, 101, 116]))], (some (130, true))⟩,
    ⟨(some 132), .op (.bin .eql (.t 131) (.c (.i .u64 1073741824))), (some (130, true))⟩,
    ⟨(some 133), .op (.pick (.t 130) (.t 132) (.c (.b false))), none⟩,
    ⟨(some 134), .op (.mov (.t 133)), none⟩,
    ⟨(some 135), .callF 39 [(.c (.s [110, 111]))], (some (134, true))⟩,
    ⟨(some 136), .op (.bin .eql (.t 135) (.c (.i .u64 0))), (some (134, true))⟩,
    ⟨(some 137), .op (.pick (.t 134) (.t 136) (.c (.b false))), none⟩,
    ⟨(some 138), .op (.mov (.t 137)), none⟩,
    ⟨(some 139), .op (.fAddr 10 (.t 11)), (some (138, true))⟩,
    ⟨(some 140), .op (.load1 (.t 139)), (some (138, true))⟩,
    ⟨(some 141), .op (.pick (.t 138) (.t 140) (.c (.b false))), none⟩,
    ⟨(some 142), .op (.mov (.t 141)), none⟩,
    ⟨(some 143), .op (.fAddr 10 (.t 13)), (some (142, true))⟩,
    ⟨(some 144), .op (.load1 (.t 143)), (some (142, true))⟩,
    ⟨(some 145), .op (.pick (.t 142) (.t 144) (.c (.b false))), none⟩,
    ⟨(some 146), .op (.mov (.t 145)), none⟩,
    ⟨(some 147), .op (.mov (.t 14)), (some (146, true))⟩,
    ⟨(some 148), .op (.bin .eql (.t 147) (.c (.i .i64 1))), (some (146, true))⟩,
    ⟨(some 149), .op (.pick (.t 146) (.t 148) (.c (.b false))), none⟩,
    ⟨(some 150), .op (.mov (.t 149)), none⟩,
    ⟨(some 151), .op (.fAddr 10 (.t 15)), (some (150, true))⟩,
    ⟨(some 152), .op (.load1 (.t 151)), (some (150, true))⟩,
    ⟨(some 153), .op (.un .not (.t 152)), (some (150, true))⟩,
    ⟨(some 154), .op (.pick (.t 150) (.t 153) (.c (.b false))), none⟩,
    ⟨(some 155), .op (.mov (.t 154)), none⟩,
    ⟨(some 156), .callF 35 [(.c (.s [78, 111, 78, 101, 119, 80, 114, 105, 118, 105, 108, 101, 103, 101, 115]))], (some (155, true))⟩,
    ⟨(some 157), .op (.pick (.t 155) (.t 156) (.c (.b false))), none⟩,
    ⟨(some 158), .op (.mov (.t 157)), none⟩,
    ⟨(some 159), .callF 35 [(.c (.s [83, 121, 115, 116, 101, 109, 67, 97, 108, 108, 70, 105, 108, 116, 101, 114]))], (some (158, true))⟩,
    ⟨(some 160), .op (.un .not (.t 159)), (some (158, true))⟩,
    ⟨(some 161), .op (.pick (.t 158) (.t 160) (.c (.b false))), none⟩,
    ⟨(some 0), .op (.mov (.t 161)), none⟩])
  (.ret)))))))))))⟩
theorem c33 : chkFn Try.prog 33 e33 = true := by kernel_rfl
-- vestibule/restrict.Set
def e34 : IFn := ⟨[.cell 4 13 true, .tmp 5],
  .seq (.reg false [⟨(some 2), .op (.box (.t 0)), none⟩,
    ⟨(some 3), .op (.box (.t 1)), none⟩,
    ⟨(some 4), .op (.alloc [.nils, .i .u8 0, .nils, .i .u32 0, .i .u8 0, .nils, .nils, .i .u8 0, .i .u64 0, .b false, .b false, .b false, .b false]), none⟩,
    ⟨(some 5), .op (.mov (.c (.nils))), none⟩])
  (.seq (.reg true [⟨(some 9), .op (.loadN 13 (.t 2)), none⟩,
    ⟨(some 10), .callF 65 [(.t 9)], none⟩,
    ⟨(some 11), .op (.loadN 5 (.t 3)), none⟩,
    ⟨(some 12), .op (.build [.nils, .i .u8 0, .nils, .i .u32 0, .i .u8 0, .nils, .nils, .i .u8 0, .i .u64 0, .b false, .b false, .b false, .b false, .nils, .s [], .i .i64 0, .s [], .s [], .s []] [(0, 13, (.t 10)), (14, 5, (.t 11))]), none⟩,
    ⟨(some 13), .op (.box (.t 12)), none⟩,
    ⟨(some 6), .op (.mov (.t 13)), none⟩])
  (.seq (.seq (.reg true [⟨(some 15), .callF 66 [], none⟩,
    ⟨(some 16), .op (.fAddr 3 (.t 3)), none⟩,
    ⟨(some 17), .op (.load1 (.t 16)), none⟩,
    ⟨(some 18), .op (.lookM none true (.nilf) (.t 15) (.t 17)), none⟩,
    ⟨(some 14), .op (.mov (.t 18)), none⟩,
    ⟨(some 19), .op (.ext (.t 14) 0), none⟩,
    ⟨(some 20), .op (.ext (.t 14) 1), none⟩,
    ⟨(some 7), .op (.mov (.t 19)), none⟩,
    ⟨(some 8), .op (.mov (.t 20)), none⟩])
  (.seq (.reg false [⟨(some 21), .op (.mov (.t 8)), none⟩])
  (.cond (.t 21) (.reg false [⟨(some 22), .op (.mov (.t 7)), none⟩,
    ⟨(some 23), .op (.mov (.t 6)), none⟩,
    ⟨(some 24), .op (.fAddr 4 (.t 3)), none⟩,
    ⟨(some 25), .op (.load1 (.t 24)), none⟩,
    ⟨(some 26), .callV (.t 22) [(.t 23), (.t 25)], none⟩]) (.skip))))
  (.seq (.reg true [⟨(some 27), .op (.mov (.t 6)), none⟩,
    ⟨(some 28), .op (.nilChk (.t 27)), none⟩,
    ⟨(some 29), .op (.fAddr 0 (.t 28)), none⟩,
    ⟨(some 30), .op (.loadN 13 (.t 29)), none⟩,
    ⟨(some 31), .op (.mov (.t 6)), none⟩,
    ⟨(some 32), .op (.nilChk (.t 31)), none⟩,
    ⟨(some 33), .op (.fAddr 13 (.t 32)), none⟩,
    ⟨(some 34), .op (.load1 (.t 33)), none⟩,
    ⟨none, .op (.storeD 13 (.t 4) (.t 30) [33]), none⟩,
    ⟨(some 5), .op (.mov (.t 34)), none⟩])
  (.ret))))⟩
theorem c34 : chkFn Try.prog 34 e34 = true := by kernel_rfl
-- vestibule/restrict.Key
def e35 : IFn := ⟨[.tmp 2],
  .seq (.reg false [⟨(some 2), .op (.mov (.c (.b false))), none⟩])
  (.seq (.reg false [⟨(some 6), .callF 66 [], none⟩,
    ⟨(some 7), .op (.mov (.t 0)), none⟩,
    ⟨(some 8), .op (.lookM none true (.nilf) (.t 6) (.t 7)), none⟩,
    ⟨(some 5), .op (.mov (.t 8)), none⟩,
    ⟨(some 9), .op (.ext (.t 5) 0), none⟩,
    ⟨(some 10), .op (.ext (.t 5) 1), none⟩,
    ⟨(some 3), .op (.mov (.t 9)), none⟩,
    ⟨(some 4), .op (.mov (.t 10)), none⟩])
  (.seq (.reg false [⟨(some 11), .op (.mov (.t 4)), none⟩,
    ⟨(some 2), .op (.mov (.t 11)), none⟩])
  (.ret)))⟩
theorem c35 : chkFn Try.prog 35 e35 = true := by kernel_rfl
-- vestibule/values.Bool
def e36 : IFn := ⟨[.tmp 2, .tmp 3],
  .seq (.reg false [⟨(some 2), .op (.mov (.c (.b false))), none⟩,
    ⟨(some 3), .op (.mov (.c (.i .i64 0))), none⟩])
  (.seq (.seq (.reg false [⟨(some 6), .callF 67 [], none⟩,
    ⟨(some 7), .op (.mov (.c (.i .i64 0))), none⟩])
  (.blk 0 (.loop (.seq (.reg false [⟨(some 8), .op (.bin .lss (.t 7) (.c (.i .i64 2))), none⟩])
  (.seq (.cond (.t 8) (.skip) (.exit 0))
  (.seq (.blk 1 (.seq (.reg false [⟨(some 9), .op (.mov (.t 7)), none⟩,
    ⟨(some 10), .op (.idxA 2 4 true (.t 6) (.t 7)), none⟩,
    ⟨(some 5), .op (.alloc [.s [], .s [], .s [], .s []]), none⟩,
    ⟨(some 4), .op (.mov (.t 9)), none⟩,
    ⟨none, .op (.store 4 (.t 5) (.t 10)), none⟩])
  (.seq (.reg false [⟨(some 11), .op (.slcA 4 1 (.t 5) none none none), none⟩,
    ⟨(some 12), .op (.mov (.t 0)), none⟩,
    ⟨(some 13), .callF 68 [(.t 11), (.t 12)], none⟩])
  (.cond (.t 13) (.seq (.reg false [⟨(some 14), .op (.mov (.t 4)), none⟩,
    ⟨(some 15), .op (.bin .eql (.t 14) (.c (.i .i64 1))), none⟩,
    ⟨(some 2), .op (.mov (.t 15)), none⟩,
    ⟨(some 3), .op (.mov (.c (.i .i64 0))), none⟩])
  (.ret)) (.skip)))))
  (.reg false [⟨(some 16), .op (.bin .add (.t 7) (.c (.i .i64 1))), none⟩,
    ⟨(some 7), .op (.mov (.t 16)), none⟩])))))))
  (.seq (.reg false [⟨(some 2), .op (.mov (.c (.b false))), none⟩,
    ⟨(some 3), .op (.mov (.c (.i .i64 150))), none⟩])
  (.ret)))⟩
theorem c36 : chkFn Try.prog 36 e36 = true := by kernel_rfl
-- vestibule/vestibulelaw18.after
def e37 : IFn := ⟨[.cell 4 13 true, .tmp 5],
  .seq (.reg false [⟨(some 4), .op (.alloc [.nils, .i .u8 0, .nils, .i .u32 0, .i .u8 0, .nils, .nils, .i .u8 0, .i .u64 0, .b false, .b false, .b false, .b false]), none⟩,
    ⟨(some 5), .op (.mov (.c (.i .i64 0))), none⟩])
  (.seq (.reg false [⟨(some 11), .op (.build [.nils, .i .u8 0, .nils, .i .u32 0, .i .u8 0, .nils, .nils, .i .u8 0, .i .u64 0, .b false, .b false, .b false, .b false] []), none⟩,
    ⟨(some 6), .op (.alloc [.nils, .i .u8 0, .nils, .i .u32 0, .i .u8 0, .nils, .nils, .i .u8 0, .i .u64 0, .b false, .b false, .b false, .b false]), none⟩,
    ⟨none, .op (.store 13 (.t 6) (.t 11)), none⟩])
  (.seq (.reg false [⟨(some 7), .op (.mov (.c (.i .i64 0))), none⟩])
  (.seq (.seq (.reg false [⟨(some 8), .op (.mov (.c (.i .i64 0))), none⟩])
  (.blk 0 (.loop (.seq (.seq (.reg false [⟨(some 12), .op (.mov (.t 8)), none⟩,
    ⟨(some 13), .op (.mov (.t 1)), none⟩,
    ⟨(some 14), .op (.len false (.t 13)), none⟩,
    ⟨(some 15), .op (.bin .lss (.t 12) (.t 14)), none⟩])
  (.cond (.t 15) (.skip) (.exit 0)))
  (.seq (.blk 1 (.seq (.reg true [⟨(some 19), .op (.loadN 13 (.t 6)), none⟩,
    ⟨(some 20), .op (.mov (.t 8)), none⟩,
    ⟨(some 21), .op (.bin .add (.t 20) (.c (.i .i64 1))), none⟩,
    ⟨(some 22), .op (.mov (.t 0)), none⟩,
    ⟨(some 23), .op (.mov (.t 1)), none⟩,
    ⟨(some 24), .op (.mov (.t 8)), none⟩,
    ⟨(some 25), .op (.iAddrS 1 (.t 23) (.t 24)), none⟩,
    ⟨(some 26), .op (.load1 (.t 25)), none⟩,
    ⟨(some 27), .op (.build [.s [], .i .i64 0, .s [], .s [], .s []] [(0, 1, (.c (.s [102]))), (1, 1, (.t 21)), (2, 1, (.c (.s [83, 101, 114, 118, 105, 99, 101]))), (3, 1, (.t 22)), (4, 1, (.t 26))]), none⟩,
    ⟨(some 28), .callF 34 [(.t 19), (.t 27)], none⟩,
    ⟨(some 18), .op (.mov (.t 28)), none⟩,
    ⟨(some 29), .op (.ext (.t 18) 0), none⟩,
    ⟨(some 30), .op (.ext (.t 18) 1), none⟩,
    ⟨(some 9), .op (.alloc [.nils, .i .u8 0, .nils, .i .u32 0, .i .u8 0, .nils, .nils, .i .u8 0, .i .u64 0, .b false, .b false, .b false, .b false]), none⟩,
    ⟨none, .op (.store 13 (.t 9) (.t 29)), none⟩,
    ⟨(some 10), .op (.mov (.t 30)), none⟩])
  (.seq (.reg false [⟨(some 31), .op (.loadN 13 (.t 9)), none⟩,
    ⟨none, .op (.store 13 (.t 6) (.t 31)), none⟩])
  (.reg false [⟨(some 32), .op (.mov (.t 7)), none⟩,
    ⟨(some 33), .op (.mov (.t 10)), none⟩,
    ⟨(some 34), .op (.len false (.t 33)), none⟩,
    ⟨(some 35), .op (.bin .add (.t 32) (.t 34)), none⟩,
    ⟨(some 7), .op (.mov (.t 35)), none⟩]))))
  (.reg false [⟨(some 16), .op (.mov (.t 8)), none⟩,
    ⟨(some 17), .op (.bin .add (.t 16) (.c (.i .i64 1))), none⟩,
    ⟨(some 8), .op (.mov (.t 17)), none⟩]))))))
  (.seq (.reg false [⟨(some 36), .op (.loadN 13 (.t 6)), none⟩,
    ⟨(some 37), .op (.mov (.t 7)), none⟩,
    ⟨none, .op (.store 13 (.t 4) (.t 36)), none⟩,
    ⟨(some 5), .op (.mov (.t 37)), none⟩])
  (.ret)))))⟩
theorem c37 : chkFn Try.prog 37 e37 = true := by kernel_rfl
-- vestibule/names.Spaces
def e38 : IFn := ⟨[.tmp 0],
  .seq (.reg false [⟨(some 0), .op (.mov (.c (.i .u64 0))), none⟩])
  (.seq (.reg false [⟨(some 1), .op (.mov (.c (.i .u64 0))), none⟩])
  (.seq (.seq (.reg false [⟨(some 4), .callF 69 [], none⟩,
    ⟨(some 5), .op (.mov (.c (.i .i64 0))), none⟩])
  (.blk 0 (.loop (.seq (.reg false [⟨(some 6), .op (.bin .lss (.t 5) (.c (.i .i64 8))), none⟩])
  (.seq (.cond (.t 6) (.skip) (.exit 0))
  (.seq (.blk 1 (.seq (.reg false [⟨(some 7), .op (.idxA 8 2 true (.t 4) (.t 5)), none⟩,
    ⟨(some 3), .op (.alloc [.s [], .i .u64 0]), none⟩,
    ⟨none, .op (.store 2 (.t 3) (.t 7)), none⟩])
  (.reg false [⟨(some 8), .op (.mov (.t 1)), none⟩,
    ⟨(some 9), .op (.fAddr 1 (.t 3)), none⟩,
    ⟨(some 10), .op (.load1 (.t 9)), none⟩,
    ⟨(some 11), .op (.bin .or (.t 8) (.t 10)), none⟩,
    ⟨(some 1), .op (.mov (.t 11)), none⟩])))
  (.reg false [⟨(some 12), .op (.bin .add (.t 5) (.c (.i .i64 1))), none⟩,
    ⟨(some 5), .op (.mov (.t 12)), none⟩])))))))
  (.seq (.reg false [⟨(some 13), .op (.mov (.t 1)), none⟩,
    ⟨(some 0), .op (.mov (.t 13)), none⟩])
  (.ret))))⟩
theorem c38 : chkFn Try.prog 38 e38 = true := by kernel_rfl
-- vestibule/vestibulelaw18.spaces
def e39 : IFn := ⟨[.tmp 2],
  .seq (.reg false [⟨(some 2), .op (.mov (.c (.i .u64 0))), none⟩])
  (.seq (.reg false [⟨(some 6), .op (.mov (.t 0)), none⟩,
    ⟨(some 7), .op (.buildS 1 [.s []] [(0, 1, (.t 6))]), none⟩,
    ⟨(some 8), .callF 37 [(.c (.s [82, 101, 115, 116, 114, 105, 99, 116, 78, 97, 109, 101, 115, 112, 97, 99, 101, 115])), (.t 7)], none⟩,
    ⟨(some 5), .op (.mov (.t 8)), none⟩,
    ⟨(some 9), .op (.ext (.t 5) 0), none⟩,
    ⟨(some 10), .op (.ext (.t 5) 1), none⟩,
    ⟨(some 3), .op (.alloc [.nils, .i .u8 0, .nils, .i .u32 0, .i .u8 0, .nils, .nils, .i .u8 0, .i .u64 0, .b false, .b false, .b false, .b false]), none⟩,
    ⟨none, .op (.store 13 (.t 3) (.t 9)), none⟩,
    ⟨(some 4), .op (.mov (.t 10)), none⟩])
  (.seq (.reg false [⟨(some 11), .op (.fAddr 8 (.t 3)), none⟩,
    ⟨(some 12), .op (.load1 (.t 11)), none⟩,
    ⟨(some 2), .op (.mov (.t 12)), none⟩])
  (.ret)))⟩
theorem c39 : chkFn Try.prog 39 e39 = true := by kernel_rfl
-- strings.FieldsFunc
def e50 : IFn := ⟨[.tmp 4],
  .seq (.reg false [⟨(some 4), .op (.mov (.c (.nils))), none⟩])
  (.seq (.reg false [⟨(some 12), .op (.mkS 2 16 [.i .i64 0, .i .i64 0] (.c (.i .i64 0)) (.c (.i .i64 32))), none⟩,
    ⟨(some 5), .op (.mov (.t 12)), none⟩])
  (.seq (.reg false [⟨(some 6), .op (.mov (.c (.i .i64 (-1)))), none⟩])
  (.seq (.seq (.reg false [⟨(some 13), .op (.mov (.t 0)), none⟩,
    ⟨(some 14), .op (.rangeS (.t 13)), none⟩])
  (.blk 0 (.loop (.seq (.reg false [⟨(some 15), .op (.nextS (.t 14)), none⟩,
    ⟨(some 16), .op (.ext (.t 15) 0), none⟩])
  (.seq (.cond (.t 16) (.skip) (.exit 0))
  (.blk 1 (.seq (.reg false [⟨(some 17), .op (.ext (.t 15) 1), none⟩,
    ⟨(some 18), .op (.ext (.t 15) 2), none⟩,
    ⟨(some 7), .op (.mov (.t 17)), none⟩,
    ⟨(some 8), .op (.mov (.t 18)), none⟩])
  (.seq (.reg false [⟨(some 19), .op (.mov (.t 1)), none⟩,
    ⟨(some 20), .op (.mov (.t 8)), none⟩,
    ⟨(some 21), .callV (.t 19) [(.t 20)], none⟩])
  (.cond (.t 21) (.seq (.reg false [⟨(some 22), .op (.mov (.t 6)), none⟩,
    ⟨(some 23), .op (.bin .geq (.t 22) (.c (.i .i64 0))), none⟩])
  (.cond (.t 23) (.seq (.reg false [⟨(some 24), .op (.mov (.t 5)), none⟩,
    ⟨(some 25), .op (.mov (.t 6)), none⟩,
    ⟨(some 26), .op (.mov (.t 7)), none⟩,
    ⟨(some 27), .op (.build [.i .i64 0, .i .i64 0] [(0, 1, (.t 25)), (1, 1, (.t 26))]), none⟩,
    ⟨(some 28), .op (.buildS 1 [.i .i64 0, .i .i64 0] [(0, 2, (.t 27))]), none⟩,
    ⟨(some 29), .op (.app 2 16 true (.t 24) (.t 28)), none⟩,
    ⟨(some 5), .op (.mov (.t 29)), none⟩])
  (.reg false [⟨(some 30), .op (.mov (.t 6)), none⟩,
    ⟨(some 31), .op (.un .xor (.t 30)), none⟩,
    ⟨(some 6), .op (.mov (.t 31)), none⟩])) (.skip))) (.seq (.reg false [⟨(some 32), .op (.mov (.t 6)), none⟩,
    ⟨(some 33), .op (.bin .lss (.t 32) (.c (.i .i64 0))), none⟩])
  (.cond (.t 33) (.reg false [⟨(some 34), .op (.mov (.t 7)), none⟩,
    ⟨(some 6), .op (.mov (.t 34)), none⟩]) (.skip))))))))))))
  (.seq (.seq (.reg false [⟨(some 35), .op (.mov (.t 6)), none⟩,
    ⟨(some 36), .op (.bin .geq (.t 35) (.c (.i .i64 0))), none⟩])
  (.cond (.t 36) (.reg false [⟨(some 37), .op (.mov (.t 5)), none⟩,
    ⟨(some 38), .op (.mov (.t 6)), none⟩,
    ⟨(some 39), .op (.mov (.t 0)), none⟩,
    ⟨(some 40), .op (.len true (.t 39)), none⟩,
    ⟨(some 41), .op (.build [.i .i64 0, .i .i64 0] [(0, 1, (.t 38)), (1, 1, (.t 40))]), none⟩,
    ⟨(some 42), .op (.buildS 1 [.i .i64 0, .i .i64 0] [(0, 2, (.t 41))]), none⟩,
    ⟨(some 43), .op (.app 2 16 true (.t 37) (.t 42)), none⟩,
    ⟨(some 5), .op (.mov (.t 43)), none⟩]) (.skip)))
  (.seq (.reg false [⟨(some 44), .op (.mov (.t 5)), none⟩,
    ⟨(some 45), .op (.len false (.t 44)), none⟩,
    ⟨(some 46), .op (.mkS 1 16 [.s []] (.t 45) (.t 45)), none⟩,
    ⟨(some 9), .op (.mov (.t 46)), none⟩])
  (.seq (.seq (.reg false [⟨(some 47), .op (.mov (.t 5)), none⟩,
    ⟨(some 48), .op (.len false (.t 47)), none⟩,
    ⟨(some 49), .op (.mov (.c (.i .i64 0))), none⟩])
  (.blk 2 (.loop (.seq (.reg false [⟨(some 50), .op (.bin .lss (.t 49) (.t 48)), none⟩])
  (.seq (.cond (.t 50) (.skip) (.exit 2))
  (.seq (.blk 3 (.seq (.reg false [⟨(some 51), .op (.mov (.t 49)), none⟩,
    ⟨(some 52), .op (.iAddrS 2 (.t 47) (.t 49)), none⟩,
    ⟨(some 53), .op (.loadN 2 (.t 52)), none⟩,
    ⟨(some 11), .op (.alloc [.i .i64 0, .i .i64 0]), none⟩,
    ⟨(some 10), .op (.mov (.t 51)), none⟩,
    ⟨none, .op (.store 2 (.t 11) (.t 53)), none⟩])
  (.reg false [⟨(some 54), .op (.mov (.t 9)), none⟩,
    ⟨(some 55), .op (.mov (.t 10)), none⟩,
    ⟨(some 56), .op (.mov (.t 0)), none⟩,
    ⟨(some 57), .op (.fAddr 0 (.t 11)), none⟩,
    ⟨(some 58), .op (.load1 (.t 57)), none⟩,
    ⟨(some 59), .op (.fAddr 1 (.t 11)), none⟩,
    ⟨(some 60), .op (.load1 (.t 59)), none⟩,
    ⟨(some 61), .op (.slcStr (.t 56) (some (.t 58)) (some (.t 60))), none⟩,
    ⟨(some 62), .op (.iAddrS 1 (.t 54) (.t 55)), none⟩,
    ⟨none, .op (.store 1 (.t 62) (.t 61)), none⟩])))
  (.reg false [⟨(some 63), .op (.bin .add (.t 49) (.c (.i .i64 1))), none⟩,
    ⟨(some 49), .op (.mov (.t 63)), none⟩])))))))
  (.seq (.reg false [⟨(some 64), .op (.mov (.t 9)), none⟩,
    ⟨(some 4), .op (.mov (.t 64)), none⟩])
  (.ret))))))))⟩
theorem c50 : chkFn Try.prog 50 e50 = true := by kernel_rfl
-- vestibule/values.Words$1
def e51 : IFn := ⟨[.tmp 2],
  .seq (.reg false [⟨(some 2), .op (.mov (.c (.b false))), none⟩])
  (.seq (.reg false [⟨(some 3), .op (.mov (.t 0)), none⟩,
    ⟨(some 4), .op (.bin .eql (.t 3) (.c (.i .i32 32))), none⟩,
    ⟨(some 5), .op (.mov (.t 4)), none⟩,
    ⟨(some 6), .op (.mov (.t 0)), (some (5, false))⟩,
    ⟨(some 7), .op (.bin .eql (.t 6) (.c (.i .i32 9))), (some (5, false))⟩,
    ⟨(some 8), .op (.pick (.t 5) (.c (.b true)) (.t 7)), none⟩,
    ⟨(some 9), .op (.mov (.t 8)), none⟩,
    ⟨(some 10), .op (.mov (.t 0)), (some (9, false))⟩,
    ⟨(some 11), .op (.bin .eql (.t 10) (.c (.i .i32 13))), (some (9, false))⟩,
    ⟨(some 12), .op (.pick (.t 9) (.c (.b true)) (.t 11)), none⟩,
    ⟨(some 2), .op (.mov (.t 12)), none⟩])
  (.ret))⟩
theorem c51 : chkFn Try.prog 51 e51 = true := by kernel_rfl
-- strings.CutPrefix
def e52 : IFn := ⟨[.tmp 4, .tmp 5],
  .seq (.reg false [⟨(some 4), .op (.mov (.c (.s []))), none⟩,
    ⟨(some 5), .op (.mov (.c (.b false))), none⟩])
  (.seq (.reg false [⟨(some 6), .op (.mov (.t 0)), none⟩,
    ⟨(some 7), .op (.mov (.t 1)), none⟩,
    ⟨(some 8), .callF 77 [(.t 6), (.t 7)], none⟩,
    ⟨(some 9), .op (.ext (.t 8) 0), none⟩,
    ⟨(some 10), .op (.ext (.t 8) 1), none⟩,
    ⟨(some 4), .op (.mov (.t 9)), none⟩,
    ⟨(some 5), .op (.mov (.t 10)), none⟩])
  (.ret))⟩
theorem c52 : chkFn Try.prog 52 e52 = true := by kernel_rfl
-- vestibule/restrict.copied
def e65 : IFn := ⟨[.cell 2 13 true],
  .seq (.reg false [⟨(some 1), .op (.box (.t 0)), none⟩,
    ⟨(some 2), .op (.alloc [.nils, .i .u8 0, .nils, .i .u32 0, .i .u8 0, .nils, .nils, .i .u8 0, .i .u64 0, .b false, .b false, .b false, .b false]), none⟩])
  (.seq (.reg false [⟨(some 3), .op (.fAddr 0 (.t 1)), none⟩,
    ⟨(some 4), .op (.load1 (.t 3)), none⟩,
    ⟨(some 5), .callF 91 [(.t 4)], none⟩,
    ⟨(some 6), .op (.fAddr 0 (.t 1)), none⟩,
    ⟨none, .op (.store 1 (.t 6) (.t 5)), none⟩])
  (.seq (.reg false [⟨(some 7), .op (.fAddr 6 (.t 1)), none⟩,
    ⟨(some 8), .op (.load1 (.t 7)), none⟩,
    ⟨(some 9), .callF 92 [(.t 8)], none⟩,
    ⟨(some 10), .op (.fAddr 6 (.t 1)), none⟩,
    ⟨none, .op (.store 1 (.t 10) (.t 9)), none⟩])
  (.seq (.reg false [⟨(some 11), .op (.fAddr 1 (.t 1)), none⟩,
    ⟨(some 12), .op (.fAddr 1 (.t 11)), none⟩,
    ⟨(some 13), .op (.load1 (.t 12)), none⟩,
    ⟨(some 14), .callF 73 [(.t 13)], none⟩,
    ⟨(some 15), .op (.fAddr 1 (.t 1)), none⟩,
    ⟨(some 16), .op (.fAddr 1 (.t 15)), none⟩,
    ⟨none, .op (.store 1 (.t 16) (.t 14)), none⟩])
  (.seq (.reg false [⟨(some 17), .op (.fAddr 4 (.t 1)), none⟩,
    ⟨(some 18), .op (.fAddr 1 (.t 17)), none⟩,
    ⟨(some 19), .op (.load1 (.t 18)), none⟩,
    ⟨(some 20), .callF 73 [(.t 19)], none⟩,
    ⟨(some 21), .op (.fAddr 4 (.t 1)), none⟩,
    ⟨(some 22), .op (.fAddr 1 (.t 21)), none⟩,
    ⟨none, .op (.store 1 (.t 22) (.t 20)), none⟩])
  (.seq (.reg false [⟨(some 23), .op (.loadN 13 (.t 1)), none⟩,
    ⟨none, .op (.store 13 (.t 2) (.t 23)), none⟩])
  (.ret))))))⟩
theorem c65 : chkFn Try.prog 65 e65 = true := by kernel_rfl
-- vestibule/restrict.keys
def e66 : IFn := ⟨[.tmp 0],
  .seq (.reg false [⟨(some 0), .op (.mov (.c (.nilm))), none⟩])
  (.seq (.reg false [⟨(some 1), .op (.mkM), none⟩,
    ⟨none, .op (.updM none (.t 1) (.c (.s [83, 121, 115, 116, 101, 109, 67, 97, 108, 108, 65, 114, 99, 104, 105, 116, 101, 99, 116, 117, 114, 101, 115])) (.c (.fn 93 [] []))), none⟩,
    ⟨none, .op (.updM none (.t 1) (.c (.s [82, 101, 115, 116, 114, 105, 99, 116, 65, 100, 100, 114, 101, 115, 115, 70, 97, 109, 105, 108, 105, 101, 115])) (.c (.fn 94 [] []))), none⟩,
    ⟨none, .op (.updM none (.t 1) (.c (.s [82, 101, 115, 116, 114, 105, 99, 116, 78, 97, 109, 101, 115, 112, 97, 99, 101, 115])) (.c (.fn 95 [] []))), none⟩,
    ⟨none, .op (.updM none (.t 1) (.c (.s [77, 101, 109, 111, 114, 121, 68, 101, 110, 121, 87, 114, 105, 116, 101, 69, 120, 101, 99, 117, 116, 101])) (.c (.fn 96 [] []))), none⟩,
    ⟨none, .op (.updM none (.t 1) (.c (.s [76, 111, 99, 107, 80, 101, 114, 115, 111, 110, 97, 108, 105, 116, 121])) (.c (.fn 97 [] []))), none⟩,
    ⟨none, .op (.updM none (.t 1) (.c (.s [82, 101, 115, 116, 114, 105, 99, 116, 82, 101, 97, 108, 116, 105, 109, 101])) (.c (.fn 98 [] []))), none⟩,
    ⟨none, .op (.updM none (.t 1) (.c (.s [78, 111, 78, 101, 119, 80, 114, 105, 118, 105, 108, 101, 103, 101, 115])) (.c (.fn 99 [] []))), none⟩,
    ⟨(some 2), .op (.mov (.t 1)), none⟩,
    ⟨(some 0), .op (.mov (.t 2)), none⟩])
  (.ret))⟩
theorem c66 : chkFn Try.prog 66 e66 = true := by kernel_rfl
-- vestibule/values.says
def e67 : IFn := ⟨[.cell 0 8 true],
  .seq (.reg false [⟨(some 0), .op (.alloc [.s [], .s [], .s [], .s [], .s [], .s [], .s [], .s []]), none⟩])
  (.seq (.reg false [⟨(some 1), .op (.build [.s [], .s [], .s [], .s []] [(0, 1, (.c (.s [110, 111]))), (1, 1, (.c (.s [102, 97, 108, 115, 101]))), (2, 1, (.c (.s [111, 102, 102]))), (3, 1, (.c (.s [48])))]), none⟩,
    ⟨(some 2), .op (.build [.s [], .s [], .s [], .s []] [(0, 1, (.c (.s [121, 101, 115]))), (1, 1, (.c (.s [116, 114, 117, 101]))), (2, 1, (.c (.s [111, 110]))), (3, 1, (.c (.s [49])))]), none⟩,
    ⟨(some 3), .op (.build [.s [], .s [], .s [], .s [], .s [], .s [], .s [], .s []] [(0, 4, (.t 1)), (4, 4, (.t 2))]), none⟩,
    ⟨none, .op (.store 8 (.t 0) (.t 3)), none⟩])
  (.ret))⟩
theorem c67 : chkFn Try.prog 67 e67 = true := by kernel_rfl
-- slices.Contains[[]string,string]
def e68 : IFn := ⟨[.tmp 4],
  .seq (.reg false [⟨(some 4), .op (.mov (.c (.b false))), none⟩])
  (.seq (.reg false [⟨(some 5), .op (.mov (.t 0)), none⟩,
    ⟨(some 6), .op (.mov (.t 1)), none⟩,
    ⟨(some 7), .callF 100 [(.t 5), (.t 6)], none⟩,
    ⟨(some 8), .op (.bin .geq (.t 7) (.c (.i .i64 0))), none⟩,
    ⟨(some 4), .op (.mov (.t 8)), none⟩])
  (.ret))⟩
theorem c68 : chkFn Try.prog 68 e68 = true := by kernel_rfl
-- vestibule/names.spaces
def e69 : IFn := ⟨[.cell 0 16 true],
  .seq (.reg false [⟨(some 0), .op (.alloc [.s [], .i .u64 0, .s [], .i .u64 0, .s [], .i .u64 0, .s [], .i .u64 0, .s [], .i .u64 0, .s [], .i .u64 0, .s [], .i .u64 0, .s [], .i .u64 0]), none⟩])
  (.seq (.reg false [⟨(some 1), .op (.build [.s [], .i .u64 0] [(0, 1, (.c (.s [116, 105, 109, 101]))), (1, 1, (.c (.i .u64 128)))]), none⟩,
    ⟨(some 2), .op (.build [.s [], .i .u64 0] [(0, 1, (.c (.s [109, 110, 116]))), (1, 1, (.c (.i .u64 131072)))]), none⟩,
    ⟨(some 3), .op (.build [.s [], .i .u64 0] [(0, 1, (.c (.s [99, 103, 114, 111, 117, 112]))), (1, 1, (.c (.i .u64 33554432)))]), none⟩,
    ⟨(some 4), .op (.build [.s [], .i .u64 0] [(0, 1, (.c (.s [117, 116, 115]))), (1, 1, (.c (.i .u64 67108864)))]), none⟩,
    ⟨(some 5), .op (.build [.s [], .i .u64 0] [(0, 1, (.c (.s [105, 112, 99]))), (1, 1, (.c (.i .u64 134217728)))]), none⟩,
    ⟨(some 6), .op (.build [.s [], .i .u64 0] [(0, 1, (.c (.s [117, 115, 101, 114]))), (1, 1, (.c (.i .u64 268435456)))]), none⟩,
    ⟨(some 7), .op (.build [.s [], .i .u64 0] [(0, 1, (.c (.s [112, 105, 100]))), (1, 1, (.c (.i .u64 536870912)))]), none⟩,
    ⟨(some 8), .op (.build [.s [], .i .u64 0] [(0, 1, (.c (.s [110, 101, 116]))), (1, 1, (.c (.i .u64 1073741824)))]), none⟩,
    ⟨(some 9), .op (.build [.s [], .i .u64 0, .s [], .i .u64 0, .s [], .i .u64 0, .s [], .i .u64 0, .s [], .i .u64 0, .s [], .i .u64 0, .s [], .i .u64 0, .s [], .i .u64 0] [(0, 2, (.t 1)), (2, 2, (.t 2)), (4, 2, (.t 3)), (6, 2, (.t 4)), (8, 2, (.t 5)), (10, 2, (.t 6)), (12, 2, (.t 7)), (14, 2, (.t 8))]), none⟩,
    ⟨none, .op (.store 16 (.t 0) (.t 9)), none⟩])
  (.ret))⟩
theorem c69 : chkFn Try.prog 69 e69 = true := by kernel_rfl
-- slices.Clone[[]vestibule/api.Call,vestibule/api.Call]
def e73 : IFn := ⟨[.tmp 2],
  .seq (.reg false [⟨(some 2), .op (.mov (.c (.nils))), none⟩])
  (.seq (.seq (.reg false [⟨(some 3), .op (.mov (.t 0)), none⟩,
    ⟨(some 4), .op (.eqN false .slice (.t 3)), none⟩])
  (.cond (.t 4) (.seq (.reg false [⟨(some 2), .op (.mov (.c (.nils))), none⟩])
  (.ret)) (.skip)))
  (.seq (.reg false [⟨(some 5), .op (.buildS 0 [.s [], .i .u32 0] []), none⟩,
    ⟨(some 6), .op (.mov (.t 0)), none⟩,
    ⟨(some 7), .op (.app 2 24 true (.t 5) (.t 6)), none⟩,
    ⟨(some 2), .op (.mov (.t 7)), none⟩])
  (.ret)))⟩
theorem c73 : chkFn Try.prog 73 e73 = true := by kernel_rfl
-- internal/stringslite.CutPrefix
def e77 : IFn := ⟨[.tmp 4, .tmp 5],
  .seq (.reg false [⟨(some 4), .op (.mov (.c (.s []))), none⟩,
    ⟨(some 5), .op (.mov (.c (.b false))), none⟩])
  (.seq (.seq (.reg false [⟨(some 6), .op (.mov (.t 0)), none⟩,
    ⟨(some 7), .op (.mov (.t 1)), none⟩,
    ⟨(some 8), .callF 105 [(.t 6), (.t 7)], none⟩,
    ⟨(some 9), .op (.un .not (.t 8)), none⟩])
  (.cond (.t 9) (.seq (.reg false [⟨(some 10), .op (.mov (.t 0)), none⟩,
    ⟨(some 4), .op (.mov (.t 10)), none⟩,
    ⟨(some 5), .op (.mov (.c (.b false))), none⟩])
  (.ret)) (.skip)))
  (.seq (.reg false [⟨(some 11), .op (.mov (.t 0)), none⟩,
    ⟨(some 12), .op (.mov (.t 1)), none⟩,
    ⟨(some 13), .op (.len true (.t 12)), none⟩,
    ⟨(some 14), .op (.slcStr (.t 11) (some (.t 13)) none), none⟩,
    ⟨(some 4), .op (.mov (.t 14)), none⟩,
    ⟨(some 5), .op (.mov (.c (.b true))), none⟩])
  (.ret)))⟩
theorem c77 : chkFn Try.prog 77 e77 = true := by kernel_rfl
-- vestibule/names.find[uint32]
def e84 : IFn := ⟨[.tmp 6, .tmp 7],
  .seq (.reg false [⟨(some 6), .op (.mov (.c (.i .u32 0))), none⟩,
    ⟨(some 7), .op (.mov (.c (.i .i64 0))), none⟩])
  (.seq (.seq (.reg false [⟨(some 11), .op (.mov (.t 0)), none⟩,
    ⟨(some 12), .op (.len false (.t 11)), none⟩,
    ⟨(some 13), .op (.mov (.c (.i .i64 0))), none⟩])
  (.blk 0 (.loop (.seq (.reg false [⟨(some 14), .op (.bin .lss (.t 13) (.t 12)), none⟩])
  (.seq (.cond (.t 14) (.skip) (.exit 0))
  (.seq (.blk 1 (.seq (.reg false [⟨(some 15), .op (.iAddrS 2 (.t 11) (.t 13)), none⟩,
    ⟨(some 16), .op (.loadN 2 (.t 15)), none⟩,
    ⟨(some 9), .op (.alloc [.s [], .i .u32 0]), none⟩,
    ⟨none, .op (.store 2 (.t 9) (.t 16)), none⟩])
  (.seq (.reg false [⟨(some 17), .op (.fAddr 0 (.t 9)), none⟩,
    ⟨(some 18), .op (.load1 (.t 17)), none⟩,
    ⟨(some 19), .op (.mov (.t 1)), none⟩,
    ⟨(some 20), .op (.bin .eql (.t 18) (.t 19)), none⟩])
  (.cond (.t 20) (.seq (.reg false [⟨(some 21), .op (.fAddr 1 (.t 9)), none⟩,
    ⟨(some 22), .op (.load1 (.t 21)), none⟩,
    ⟨(some 6), .op (.mov (.t 22)), none⟩,
    ⟨(some 7), .op (.mov (.c (.i .i64 0))), none⟩])
  (.ret)) (.skip)))))
  (.reg false [⟨(some 23), .op (.bin .add (.t 13) (.c (.i .i64 1))), none⟩,
    ⟨(some 13), .op (.mov (.t 23)), none⟩])))))))
  (.seq (.reg false [⟨(some 10), .op (.mov (.c (.i .u32 0))), none⟩])
  (.seq (.reg false [⟨(some 24), .op (.mov (.t 10)), none⟩,
    ⟨(some 25), .op (.mov (.t 2)), none⟩,
    ⟨(some 6), .op (.mov (.t 24)), none⟩,
    ⟨(some 7), .op (.mov (.t 25)), none⟩])
  (.ret))))⟩
theorem c84 : chkFn Try.prog 84 e84 = true := by kernel_rfl
-- slices.Clone[[]int,int]
def e91 : IFn := ⟨[.tmp 2],
  .seq (.reg false [⟨(some 2), .op (.mov (.c (.nils))), none⟩])
  (.seq (.seq (.reg false [⟨(some 3), .op (.mov (.t 0)), none⟩,
    ⟨(some 4), .op (.eqN false .slice (.t 3)), none⟩])
  (.cond (.t 4) (.seq (.reg false [⟨(some 2), .op (.mov (.c (.nils))), none⟩])
  (.ret)) (.skip)))
  (.seq (.reg false [⟨(some 5), .op (.buildS 0 [.i .i64 0] []), none⟩,
    ⟨(some 6), .op (.mov (.t 0)), none⟩,
    ⟨(some 7), .op (.app 1 8 true (.t 5) (.t 6)), none⟩,
    ⟨(some 2), .op (.mov (.t 7)), none⟩])
  (.ret)))⟩
theorem c91 : chkFn Try.prog 91 e91 = true := by kernel_rfl
-- slices.Clone[[]uint32,uint32]
def e92 : IFn := ⟨[.tmp 2],
  .seq (.reg false [⟨(some 2), .op (.mov (.c (.nils))), none⟩])
  (.seq (.seq (.reg false [⟨(some 3), .op (.mov (.t 0)), none⟩,
    ⟨(some 4), .op (.eqN false .slice (.t 3)), none⟩])
  (.cond (.t 4) (.seq (.reg false [⟨(some 2), .op (.mov (.c (.nils))), none⟩])
  (.ret)) (.skip)))
  (.seq (.reg false [⟨(some 5), .op (.buildS 0 [.i .u32 0] []), none⟩,
    ⟨(some 6), .op (.mov (.t 0)), none⟩,
    ⟨(some 7), .op (.app 1 4 true (.t 5) (.t 6)), none⟩,
    ⟨(some 2), .op (.mov (.t 7)), none⟩])
  (.ret)))⟩
theorem c92 : chkFn Try.prog 92 e92 = true := by kernel_rfl
-- (*vestibule/restrict.setter).arches
def e93 : IFn := ⟨[],
  .seq (.reg false [⟨(some 9), .op (.mov (.t 1)), none⟩,
    ⟨(some 10), .callF 15 [(.t 9)], none⟩,
    ⟨(some 4), .op (.mov (.t 10)), none⟩])
  (.seq (.seq (.reg false [⟨(some 11), .op (.mov (.t 4)), none⟩,
    ⟨(some 12), .op (.len false (.t 11)), none⟩,
    ⟨(some 13), .op (.bin .eql (.t 12) (.c (.i .i64 0))), none⟩])
  (.cond (.t 13) (.reg false [⟨(some 14), .op (.mov (.t 0)), none⟩,
    ⟨(some 15), .op (.nilChk (.t 14)), none⟩,
    ⟨(some 16), .op (.fAddr 0 (.t 15)), none⟩,
    ⟨(some 17), .op (.fAddr 0 (.t 16)), none⟩,
    ⟨none, .op (.store 1 (.t 17) (.c (.nils))), none⟩]) (.skip)))
  (.seq (.reg false [⟨(some 18), .op (.mov (.t 4)), none⟩,
    ⟨(some 19), .op (.len false (.t 18)), none⟩,
    ⟨(some 20), .op (.mov (.c (.i .i64 0))), none⟩])
  (.blk 0 (.loop (.seq (.reg false [⟨(some 21), .op (.bin .lss (.t 20) (.t 19)), none⟩])
  (.seq (.cond (.t 21) (.skip) (.exit 0))
  (.seq (.blk 1 (.seq (.reg false [⟨(some 22), .op (.iAddrS 1 (.t 18) (.t 20)), none⟩,
    ⟨(some 23), .op (.load1 (.t 22)), none⟩,
    ⟨(some 6), .op (.mov (.t 23)), none⟩])
  (.seq (.reg false [⟨(some 25), .op (.mov (.t 6)), none⟩,
    ⟨(some 26), .callF 115 [(.t 25)], none⟩,
    ⟨(some 24), .op (.mov (.t 26)), none⟩,
    ⟨(some 27), .op (.ext (.t 24) 0), none⟩,
    ⟨(some 28), .op (.ext (.t 24) 1), none⟩,
    ⟨(some 7), .op (.mov (.t 27)), none⟩,
    ⟨(some 8), .op (.mov (.t 28)), none⟩])
  (.seq (.reg false [⟨(some 29), .op (.mov (.t 8)), none⟩,
    ⟨(some 30), .op (.bin .neq (.t 29) (.c (.i .i64 0))), none⟩])
  (.cond (.t 30) (.reg false [⟨(some 31), .op (.mov (.t 0)), none⟩,
    ⟨(some 32), .op (.mov (.t 8)), none⟩,
    ⟨(some 33), .op (.mov (.t 6)), none⟩,
    ⟨(some 34), .callF 116 [(.t 31), (.t 32), (.t 33)], none⟩]) (.reg false [⟨(some 35), .op (.mov (.t 0)), none⟩,
    ⟨(some 36), .op (.mov (.t 0)), none⟩,
    ⟨(some 37), .op (.nilChk (.t 36)), none⟩,
    ⟨(some 38), .op (.fAddr 0 (.t 37)), none⟩,
    ⟨(some 39), .op (.fAddr 0 (.t 38)), none⟩,
    ⟨(some 40), .op (.load1 (.t 39)), none⟩,
    ⟨(some 41), .op (.mov (.t 7)), none⟩,
    ⟨(some 42), .callF 117 [(.t 40), (.t 41), (.c (.b true))], none⟩,
    ⟨(some 43), .op (.nilChk (.t 35)), none⟩,
    ⟨(some 44), .op (.fAddr 0 (.t 43)), none⟩,
    ⟨(some 45), .op (.fAddr 0 (.t 44)), none⟩,
    ⟨none, .op (.store 1 (.t 45) (.t 42)), none⟩]))))))
  (.reg false [⟨(some 46), .op (.bin .add (.t 20) (.c (.i .i64 1))), none⟩,
    ⟨(some 20), .op (.mov (.t 46)), none⟩]))))))))⟩
theorem c93 : chkFn Try.prog 93 e93 = true := by kernel_rfl
-- (*vestibule/restrict.setter).families
def e94 : IFn := ⟨[],
  .seq (.reg false [⟨(some 12), .op (.mov (.t 1)), none⟩,
    ⟨(some 13), .callF 16 [(.t 12)], none⟩,
    ⟨(some 11), .op (.mov (.t 13)), none⟩,
    ⟨(some 14), .op (.ext (.t 11) 0), none⟩,
    ⟨(some 15), .op (.ext (.t 11) 1), none⟩,
    ⟨(some 4), .op (.mov (.t 14)), none⟩,
    ⟨(some 5), .op (.mov (.t 15)), none⟩])
  (.seq (.seq (.reg false [⟨(some 16), .op (.mov (.t 1)), none⟩,
    ⟨(some 17), .callF 15 [(.t 16)], none⟩,
    ⟨(some 6), .op (.mov (.t 17)), none⟩])
  (.blk 0 (.seq (.reg false [⟨(some 19), .op (.mov (.t 6)), none⟩,
    ⟨(some 20), .op (.len false (.t 19)), none⟩,
    ⟨(some 21), .op (.bin .eql (.t 20) (.c (.i .i64 0))), none⟩,
    ⟨(some 18), .op (.mov (.t 21)), none⟩])
  (.cond (.t 18) (.seq (.reg false [⟨(some 22), .op (.mov (.t 0)), none⟩,
    ⟨(some 23), .op (.mov (.t 0)), none⟩,
    ⟨(some 24), .op (.nilChk (.t 22)), none⟩,
    ⟨(some 25), .op (.fAddr 0 (.t 24)), none⟩,
    ⟨(some 26), .op (.fAddr 6 (.t 25)), none⟩,
    ⟨none, .op (.store 1 (.t 26) (.c (.nils))), none⟩,
    ⟨(some 27), .op (.nilChk (.t 23)), none⟩,
    ⟨(some 28), .op (.fAddr 0 (.t 27)), none⟩,
    ⟨(some 29), .op (.fAddr 7 (.t 28)), none⟩,
    ⟨none, .op (.store 1 (.t 29) (.c (.i .u8 0))), none⟩])
  (.ret)) (.seq (.reg false [⟨(some 31), .op (.mov (.t 6)), none⟩,
    ⟨(some 32), .op (.len false (.t 31)), none⟩,
    ⟨(some 33), .op (.bin .eql (.t 32) (.c (.i .i64 1))), none⟩,
    ⟨(some 34), .op (.mov (.t 33)), none⟩,
    ⟨(some 35), .op (.mov (.t 6)), (some (34, true))⟩,
    ⟨(some 36), .op (.iAddrS 1 (.t 35) (.c (.i .i64 0))), (some (34, true))⟩,
    ⟨(some 37), .op (.load1 (.t 36)), (some (34, true))⟩,
    ⟨(some 38), .op (.bin .eql (.t 37) (.c (.s [110, 111, 110, 101]))), (some (34, true))⟩,
    ⟨(some 39), .op (.pick (.t 34) (.t 38) (.c (.b false))), none⟩,
    ⟨(some 30), .op (.mov (.t 39)), none⟩])
  (.cond (.t 30) (.seq (.reg false [⟨(some 40), .op (.mov (.t 0)), none⟩,
    ⟨(some 41), .op (.mov (.t 0)), none⟩,
    ⟨(some 42), .op (.nilChk (.t 40)), none⟩,
    ⟨(some 43), .op (.fAddr 0 (.t 42)), none⟩,
    ⟨(some 44), .op (.fAddr 6 (.t 43)), none⟩,
    ⟨none, .op (.store 1 (.t 44) (.c (.nils))), none⟩,
    ⟨(some 45), .op (.nilChk (.t 41)), none⟩,
    ⟨(some 46), .op (.fAddr 0 (.t 45)), none⟩,
    ⟨(some 47), .op (.fAddr 7 (.t 46)), none⟩,
    ⟨none, .op (.store 1 (.t 47) (.c (.i .u8 1))), none⟩])
  (.ret)) (.skip)))))))
  (.seq (.seq (.reg false [⟨(some 48), .op (.mov (.t 0)), none⟩,
    ⟨(some 49), .op (.nilChk (.t 48)), none⟩,
    ⟨(some 50), .op (.fAddr 0 (.t 49)), none⟩,
    ⟨(some 51), .op (.fAddr 7 (.t 50)), none⟩,
    ⟨(some 52), .op (.load1 (.t 51)), none⟩,
    ⟨(some 53), .op (.bin .eql (.t 52) (.c (.i .u8 0))), none⟩])
  (.cond (.t 53) (.seq (.reg false [⟨(some 54), .op (.mov (.t 0)), none⟩,
    ⟨(some 55), .op (.nilChk (.t 54)), none⟩,
    ⟨(some 56), .op (.fAddr 0 (.t 55)), none⟩,
    ⟨(some 57), .op (.fAddr 7 (.t 56)), none⟩,
    ⟨none, .op (.store 1 (.t 57) (.c (.i .u8 1))), none⟩])
  (.seq (.reg false [⟨(some 58), .op (.mov (.t 5)), none⟩])
  (.cond (.t 58) (.reg false [⟨(some 59), .op (.mov (.t 0)), none⟩,
    ⟨(some 60), .op (.nilChk (.t 59)), none⟩,
    ⟨(some 61), .op (.fAddr 0 (.t 60)), none⟩,
    ⟨(some 62), .op (.fAddr 7 (.t 61)), none⟩,
    ⟨none, .op (.store 1 (.t 62) (.c (.i .u8 2))), none⟩]) (.skip)))) (.skip)))
  (.seq (.reg false [⟨(some 63), .op (.mov (.t 4)), none⟩,
    ⟨(some 64), .callF 15 [(.t 63)], none⟩,
    ⟨(some 65), .op (.len false (.t 64)), none⟩,
    ⟨(some 66), .op (.mov (.c (.i .i64 0))), none⟩])
  (.blk 1 (.loop (.seq (.reg false [⟨(some 67), .op (.bin .lss (.t 66) (.t 65)), none⟩])
  (.seq (.cond (.t 67) (.skip) (.exit 1))
  (.seq (.blk 2 (.seq (.reg false [⟨(some 68), .op (.iAddrS 1 (.t 64) (.t 66)), none⟩,
    ⟨(some 69), .op (.load1 (.t 68)), none⟩,
    ⟨(some 8), .op (.mov (.t 69)), none⟩])
  (.seq (.reg false [⟨(some 71), .op (.mov (.t 8)), none⟩,
    ⟨(some 72), .callF 118 [(.t 71)], none⟩,
    ⟨(some 70), .op (.mov (.t 72)), none⟩,
    ⟨(some 73), .op (.ext (.t 70) 0), none⟩,
    ⟨(some 74), .op (.ext (.t 70) 1), none⟩,
    ⟨(some 9), .op (.mov (.t 73)), none⟩,
    ⟨(some 10), .op (.mov (.t 74)), none⟩])
  (.seq (.reg false [⟨(some 75), .op (.mov (.t 10)), none⟩,
    ⟨(some 76), .op (.bin .neq (.t 75) (.c (.i .i64 0))), none⟩])
  (.cond (.t 76) (.reg false [⟨(some 77), .op (.mov (.t 0)), none⟩,
    ⟨(some 78), .op (.mov (.t 10)), none⟩,
    ⟨(some 79), .op (.mov (.t 8)), none⟩,
    ⟨(some 80), .callF 116 [(.t 77), (.t 78), (.t 79)], none⟩]) (.reg true [⟨(some 81), .op (.mov (.t 0)), none⟩,
    ⟨(some 82), .op (.mov (.t 0)), none⟩,
    ⟨(some 83), .op (.nilChk (.t 82)), none⟩,
    ⟨(some 84), .op (.fAddr 0 (.t 83)), none⟩,
    ⟨(some 85), .op (.fAddr 6 (.t 84)), none⟩,
    ⟨(some 86), .op (.load1 (.t 85)), none⟩,
    ⟨(some 87), .op (.mov (.t 9)), none⟩,
    ⟨(some 88), .op (.mov (.t 5)), none⟩,
    ⟨(some 89), .op (.mov (.t 0)), none⟩,
    ⟨(some 90), .op (.nilChk (.t 89)), none⟩,
    ⟨(some 91), .op (.fAddr 0 (.t 90)), none⟩,
    ⟨(some 92), .op (.fAddr 7 (.t 91)), none⟩,
    ⟨(some 93), .op (.load1 (.t 92)), none⟩,
    ⟨(some 94), .op (.bin .eql (.t 93) (.c (.i .u8 2))), none⟩,
    ⟨(some 95), .op (.eqB false (.t 88) (.t 94)), none⟩,
    ⟨(some 96), .callF 119 [(.t 86), (.t 87), (.t 95)], none⟩,
    ⟨(some 97), .op (.nilChk (.t 81)), none⟩,
    ⟨(some 98), .op (.fAddr 0 (.t 97)), none⟩,
    ⟨(some 99), .op (.fAddr 6 (.t 98)), none⟩,
    ⟨none, .op (.store 1 (.t 99) (.t 96)), none⟩]))))))
  (.reg false [⟨(some 100), .op (.bin .add (.t 66) (.c (.i .i64 1))), none⟩,
    ⟨(some 66), .op (.mov (.t 100)), none⟩])))))))))⟩
theorem c94 : chkFn Try.prog 94 e94 = true := by kernel_rfl
-- (*vestibule/restrict.setter).namespaces
def e95 : IFn := ⟨[],
  .seq (.seq (.reg false [⟨(some 14), .op (.mov (.t 1)), none⟩,
    ⟨(some 15), .callF 15 [(.t 14)], none⟩,
    ⟨(some 16), .op (.len false (.t 15)), none⟩,
    ⟨(some 17), .op (.bin .eql (.t 16) (.c (.i .i64 0))), none⟩])
  (.cond (.t 17) (.seq (.reg false [⟨(some 18), .op (.mov (.t 0)), none⟩,
    ⟨(some 19), .op (.nilChk (.t 18)), none⟩,
    ⟨(some 20), .op (.fAddr 0 (.t 19)), none⟩,
    ⟨(some 21), .op (.fAddr 8 (.t 20)), none⟩,
    ⟨none, .op (.store 1 (.t 21) (.c (.i .u64 0))), none⟩])
  (.ret)) (.skip)))
  (.seq (.seq (.reg false [⟨(some 23), .op (.mov (.t 1)), none⟩,
    ⟨(some 24), .callF 36 [(.t 23)], none⟩,
    ⟨(some 22), .op (.mov (.t 24)), none⟩,
    ⟨(some 25), .op (.ext (.t 22) 0), none⟩,
    ⟨(some 26), .op (.ext (.t 22) 1), none⟩,
    ⟨(some 4), .op (.mov (.t 25)), none⟩,
    ⟨(some 5), .op (.mov (.t 26)), none⟩])
  (.seq (.reg false [⟨(some 27), .op (.mov (.t 5)), none⟩,
    ⟨(some 28), .op (.bin .eql (.t 27) (.c (.i .i64 0))), none⟩])
  (.cond (.t 28) (.seq (.reg false [⟨(some 29), .op (.mov (.t 0)), none⟩,
    ⟨(some 30), .op (.nilChk (.t 29)), none⟩,
    ⟨(some 31), .op (.fAddr 0 (.t 30)), none⟩,
    ⟨(some 32), .op (.fAddr 8 (.t 31)), none⟩,
    ⟨none, .op (.store 1 (.t 32) (.c (.i .u64 0))), none⟩])
  (.seq (.seq (.reg false [⟨(some 33), .op (.mov (.t 4)), none⟩])
  (.cond (.t 33) (.reg false [⟨(some 34), .op (.mov (.t 0)), none⟩,
    ⟨(some 35), .callF 38 [], none⟩,
    ⟨(some 36), .op (.nilChk (.t 34)), none⟩,
    ⟨(some 37), .op (.fAddr 0 (.t 36)), none⟩,
    ⟨(some 38), .op (.fAddr 8 (.t 37)), none⟩,
    ⟨none, .op (.store 1 (.t 38) (.t 35)), none⟩]) (.skip)))
  (.ret))) (.skip))))
  (.seq (.reg false [⟨(some 40), .op (.mov (.t 1)), none⟩,
    ⟨(some 41), .callF 16 [(.t 40)], none⟩,
    ⟨(some 39), .op (.mov (.t 41)), none⟩,
    ⟨(some 42), .op (.ext (.t 39) 0), none⟩,
    ⟨(some 43), .op (.ext (.t 39) 1), none⟩,
    ⟨(some 6), .op (.mov (.t 42)), none⟩,
    ⟨(some 7), .op (.mov (.t 43)), none⟩])
  (.seq (.reg false [⟨(some 8), .op (.mov (.c (.i .u64 0))), none⟩,
    ⟨(some 9), .op (.mov (.c (.b true))), none⟩])
  (.seq (.seq (.reg false [⟨(some 44), .op (.mov (.t 6)), none⟩,
    ⟨(some 45), .callF 15 [(.t 44)], none⟩,
    ⟨(some 46), .op (.len false (.t 45)), none⟩,
    ⟨(some 47), .op (.mov (.c (.i .i64 0))), none⟩])
  (.blk 0 (.loop (.seq (.reg false [⟨(some 48), .op (.bin .lss (.t 47) (.t 46)), none⟩])
  (.seq (.cond (.t 48) (.skip) (.exit 0))
  (.seq (.blk 1 (.seq (.reg false [⟨(some 49), .op (.iAddrS 1 (.t 45) (.t 47)), none⟩,
    ⟨(some 50), .op (.load1 (.t 49)), none⟩,
    ⟨(some 11), .op (.mov (.t 50)), none⟩])
  (.seq (.reg false [⟨(some 52), .op (.mov (.t 11)), none⟩,
    ⟨(some 53), .callF 120 [(.t 52)], none⟩,
    ⟨(some 51), .op (.mov (.t 53)), none⟩,
    ⟨(some 54), .op (.ext (.t 51) 0), none⟩,
    ⟨(some 55), .op (.ext (.t 51) 1), none⟩,
    ⟨(some 12), .op (.mov (.t 54)), none⟩,
    ⟨(some 13), .op (.mov (.t 55)), none⟩])
  (.seq (.seq (.reg false [⟨(some 56), .op (.mov (.t 13)), none⟩,
    ⟨(some 57), .op (.bin .neq (.t 56) (.c (.i .i64 0))), none⟩])
  (.cond (.t 57) (.seq (.reg false [⟨(some 58), .op (.mov (.t 0)), none⟩,
    ⟨(some 59), .op (.mov (.t 13)), none⟩,
    ⟨(some 60), .op (.mov (.t 11)), none⟩,
    ⟨(some 61), .callF 116 [(.t 58), (.t 59), (.t 60)], none⟩])
  (.reg false [⟨(some 9), .op (.mov (.c (.b false))), none⟩])) (.skip)))
  (.reg false [⟨(some 62), .op (.mov (.t 8)), none⟩,
    ⟨(some 63), .op (.mov (.t 12)), none⟩,
    ⟨(some 64), .op (.bin .or (.t 62) (.t 63)), none⟩,
    ⟨(some 8), .op (.mov (.t 64)), none⟩])))))
  (.reg false [⟨(some 65), .op (.bin .add (.t 47) (.c (.i .i64 1))), none⟩,
    ⟨(some 47), .op (.mov (.t 65)), none⟩])))))))
  (.blk 2 (.seq (.reg false [⟨(some 67), .op (.mov (.t 9)), none⟩,
    ⟨(some 68), .op (.mov (.t 67)), none⟩,
    ⟨(some 69), .op (.mov (.t 7)), (some (68, true))⟩,
    ⟨(some 70), .op (.pick (.t 68) (.t 69) (.c (.b false))), none⟩,
    ⟨(some 66), .op (.mov (.t 70)), none⟩])
  (.cond (.t 66) (.reg false [⟨(some 71), .op (.mov (.t 0)), none⟩,
    ⟨(some 72), .op (.mov (.t 8)), none⟩,
    ⟨(some 73), .op (.nilChk (.t 71)), none⟩,
    ⟨(some 74), .op (.fAddr 0 (.t 73)), none⟩,
    ⟨(some 75), .op (.fAddr 8 (.t 74)), none⟩,
    ⟨none, .op (.store 1 (.t 75) (.t 72)), none⟩]) (.seq (.reg false [⟨(some 77), .op (.mov (.t 9)), none⟩,
    ⟨(some 76), .op (.mov (.t 77)), none⟩])
  (.cond (.t 76) (.reg false [⟨(some 78), .op (.mov (.t 0)), none⟩,
    ⟨(some 79), .callF 38 [], none⟩,
    ⟨(some 80), .op (.mov (.t 8)), none⟩,
    ⟨(some 81), .op (.bin .andNot (.t 79) (.t 80)), none⟩,
    ⟨(some 82), .op (.nilChk (.t 78)), none⟩,
    ⟨(some 83), .op (.fAddr 0 (.t 82)), none⟩,
    ⟨(some 84), .op (.fAddr 8 (.t 83)), none⟩,
    ⟨none, .op (.store 1 (.t 84) (.t 81)), none⟩]) (.skip))))))))))⟩
theorem c95 : chkFn Try.prog 95 e95 = true := by kernel_rfl
-- (*vestibule/restrict.setter).writeExecute
def e96 : IFn := ⟨[],
  .reg false [⟨(some 4), .op (.mov (.t 0)), none⟩,
    ⟨(some 5), .op (.mov (.t 1)), none⟩,
    ⟨(some 6), .op (.mov (.t 0)), none⟩,
    ⟨(some 7), .op (.nilChk (.t 6)), none⟩,
    ⟨(some 8), .op (.fAddr 0 (.t 7)), none⟩,
    ⟨(some 9), .op (.fAddr 9 (.t 8)), none⟩,
    ⟨(some 10), .callF 121 [(.t 4), (.t 5), (.t 9)], none⟩]⟩
theorem c96 : chkFn Try.prog 96 e96 = true := by kernel_rfl
-- (*vestibule/restrict.setter).personality
def e97 : IFn := ⟨[],
  .reg false [⟨(some 4), .op (.mov (.t 0)), none⟩,
    ⟨(some 5), .op (.mov (.t 1)), none⟩,
    ⟨(some 6), .op (.mov (.t 0)), none⟩,
    ⟨(some 7), .op (.nilChk (.t 6)), none⟩,
    ⟨(some 8), .op (.fAddr 0 (.t 7)), none⟩,
    ⟨(some 9), .op (.fAddr 10 (.t 8)), none⟩,
    ⟨(some 10), .callF 121 [(.t 4), (.t 5), (.t 9)], none⟩]⟩
theorem c97 : chkFn Try.prog 97 e97 = true := by kernel_rfl
-- (*vestibule/restrict.setter).realtime
def e98 : IFn := ⟨[],
  .reg false [⟨(some 4), .op (.mov (.t 0)), none⟩,
    ⟨(some 5), .op (.mov (.t 1)), none⟩,
    ⟨(some 6), .op (.mov (.t 0)), none⟩,
    ⟨(some 7), .op (.nilChk (.t 6)), none⟩,
    ⟨(some 8), .op (.fAddr 0 (.t 7)), none⟩,
    ⟨(some 9), .op (.fAddr 11 (.t 8)), none⟩,
    ⟨(some 10), .callF 121 [(.t 4), (.t 5), (.t 9)], none⟩]⟩
theorem c98 : chkFn Try.prog 98 e98 = true := by kernel_rfl
-- (*vestibule/restrict.setter).noPrivileges
def e99 : IFn := ⟨[],
  .reg false [⟨(some 4), .op (.mov (.t 0)), none⟩,
    ⟨(some 5), .op (.mov (.t 1)), none⟩,
    ⟨(some 6), .op (.mov (.t 0)), none⟩,
    ⟨(some 7), .op (.nilChk (.t 6)), none⟩,
    ⟨(some 8), .op (.fAddr 0 (.t 7)), none⟩,
    ⟨(some 9), .op (.fAddr 12 (.t 8)), none⟩,
    ⟨(some 10), .callF 121 [(.t 4), (.t 5), (.t 9)], none⟩]⟩
theorem c99 : chkFn Try.prog 99 e99 = true := by kernel_rfl
-- slices.Index[[]string,string]
def e100 : IFn := ⟨[.tmp 4],
  .seq (.reg false [⟨(some 4), .op (.mov (.c (.i .i64 0))), none⟩])
  (.seq (.seq (.reg false [⟨(some 6), .op (.mov (.t 0)), none⟩,
    ⟨(some 7), .op (.len false (.t 6)), none⟩,
    ⟨(some 8), .op (.mov (.c (.i .i64 0))), none⟩])
  (.blk 0 (.loop (.seq (.reg false [⟨(some 9), .op (.bin .lss (.t 8) (.t 7)), none⟩])
  (.seq (.cond (.t 9) (.skip) (.exit 0))
  (.seq (.blk 1 (.seq (.reg false [⟨(some 10), .op (.mov (.t 8)), none⟩,
    ⟨(some 5), .op (.mov (.t 10)), none⟩])
  (.seq (.reg false [⟨(some 11), .op (.mov (.t 1)), none⟩,
    ⟨(some 12), .op (.mov (.t 0)), none⟩,
    ⟨(some 13), .op (.mov (.t 5)), none⟩,
    ⟨(some 14), .op (.iAddrS 1 (.t 12) (.t 13)), none⟩,
    ⟨(some 15), .op (.load1 (.t 14)), none⟩,
    ⟨(some 16), .op (.bin .eql (.t 11) (.t 15)), none⟩])
  (.cond (.t 16) (.seq (.reg false [⟨(some 17), .op (.mov (.t 5)), none⟩,
    ⟨(some 4), .op (.mov (.t 17)), none⟩])
  (.ret)) (.skip)))))
  (.reg false [⟨(some 18), .op (.bin .add (.t 8) (.c (.i .i64 1))), none⟩,
    ⟨(some 8), .op (.mov (.t 18)), none⟩])))))))
  (.seq (.reg false [⟨(some 4), .op (.mov (.c (.i .i64 (-1)))), none⟩])
  (.ret)))⟩
theorem c100 : chkFn Try.prog 100 e100 = true := by kernel_rfl
-- internal/stringslite.HasPrefix
def e105 : IFn := ⟨[.tmp 4],
  .seq (.reg false [⟨(some 4), .op (.mov (.c (.b false))), none⟩])
  (.seq (.reg false [⟨(some 5), .op (.mov (.t 0)), none⟩,
    ⟨(some 6), .op (.len true (.t 5)), none⟩,
    ⟨(some 7), .op (.mov (.t 1)), none⟩,
    ⟨(some 8), .op (.len true (.t 7)), none⟩,
    ⟨(some 9), .op (.bin .geq (.t 6) (.t 8)), none⟩,
    ⟨(some 10), .op (.mov (.t 9)), none⟩,
    ⟨(some 11), .op (.mov (.t 0)), (some (10, true))⟩,
    ⟨(some 12), .op (.mov (.t 1)), (some (10, true))⟩,
    ⟨(some 13), .op (.len true (.t 12)), (some (10, true))⟩,
    ⟨(some 14), .op (.slcStr (.t 11) none (some (.t 13))), (some (10, true))⟩,
    ⟨(some 15), .op (.mov (.t 1)), (some (10, true))⟩,
    ⟨(some 16), .op (.bin .eql (.t 14) (.t 15)), (some (10, true))⟩,
    ⟨(some 17), .op (.pick (.t 10) (.t 16) (.c (.b false))), none⟩,
    ⟨(some 4), .op (.mov (.t 17)), none⟩])
  (.ret))⟩
theorem c105 : chkFn Try.prog 105 e105 = true := by kernel_rfl
-- vestibule/arch.Parse
def e115 : IFn := ⟨[.tmp 2, .tmp 3],
  .seq (.reg false [⟨(some 1), .op (.box (.t 0)), none⟩,
    ⟨(some 2), .op (.mov (.c (.i .i64 0))), none⟩,
    ⟨(some 3), .op (.mov (.c (.i .i64 0))), none⟩])
  (.seq (.seq (.reg false [⟨(some 5), .op (.load1 (.t 1)), none⟩,
    ⟨(some 6), .op (.bin .eql (.t 5) (.c (.s [110, 97, 116, 105, 118, 101]))), none⟩])
  (.cond (.t 6) (.seq (.reg false [⟨(some 2), .op (.mov (.c (.i .i64 0))), none⟩,
    ⟨(some 3), .op (.mov (.c (.i .i64 0))), none⟩])
  (.ret)) (.skip)))
  (.seq (.reg false [⟨(some 7), .op (.mkF 128 [] [(.t 1)]), none⟩,
    ⟨(some 8), .callF 127 [(.t 7)], none⟩,
    ⟨(some 4), .op (.mov (.t 8)), none⟩])
  (.seq (.seq (.reg false [⟨(some 9), .op (.mov (.t 4)), none⟩,
    ⟨(some 10), .op (.bin .lss (.t 9) (.c (.i .i64 0))), none⟩])
  (.cond (.t 10) (.seq (.reg false [⟨(some 2), .op (.mov (.c (.i .i64 0))), none⟩,
    ⟨(some 3), .op (.mov (.c (.i .i64 80))), none⟩])
  (.ret)) (.skip)))
  (.seq (.reg false [⟨(some 11), .op (.mov (.t 4)), none⟩,
    ⟨(some 2), .op (.mov (.t 11)), none⟩,
    ⟨(some 3), .op (.mov (.c (.i .i64 0))), none⟩])
  (.ret)))))⟩
theorem c115 : chkFn Try.prog 115 e115 = true := by kernel_rfl
-- (*vestibule/restrict.setter).note
def e116 : IFn := ⟨[],
  .reg true [⟨(some 6), .op (.mov (.t 0)), none⟩,
    ⟨(some 7), .op (.mov (.t 0)), none⟩,
    ⟨(some 8), .op (.nilChk (.t 7)), none⟩,
    ⟨(some 9), .op (.fAddr 13 (.t 8)), none⟩,
    ⟨(some 10), .op (.load1 (.t 9)), none⟩,
    ⟨(some 11), .op (.mov (.t 0)), none⟩,
    ⟨(some 12), .op (.nilChk (.t 11)), none⟩,
    ⟨(some 13), .op (.fAddr 14 (.t 12)), none⟩,
    ⟨(some 14), .op (.fAddr 0 (.t 13)), none⟩,
    ⟨(some 15), .op (.load1 (.t 14)), none⟩,
    ⟨(some 16), .op (.mov (.t 0)), none⟩,
    ⟨(some 17), .op (.nilChk (.t 16)), none⟩,
    ⟨(some 18), .op (.fAddr 14 (.t 17)), none⟩,
    ⟨(some 19), .op (.fAddr 1 (.t 18)), none⟩,
    ⟨(some 20), .op (.load1 (.t 19)), none⟩,
    ⟨(some 21), .op (.mov (.t 1)), none⟩,
    ⟨(some 22), .op (.mov (.t 2)), none⟩,
    ⟨(some 23), .op (.mov (.t 2)), none⟩,
    ⟨(some 24), .op (.len true (.t 23)), none⟩,
    ⟨(some 25), .op (.min (.t 24) (.c (.i .i64 60))), none⟩,
    ⟨(some 26), .op (.slcStr (.t 22) none (some (.t 25))), none⟩,
    ⟨(some 27), .op (.build [.s [], .i .i64 0, .i .i64 0, .s []] [(0, 1, (.t 15)), (1, 1, (.t 20)), (2, 1, (.t 21)), (3, 1, (.t 26))]), none⟩,
    ⟨(some 28), .op (.buildS 1 [.s [], .i .i64 0, .i .i64 0, .s []] [(0, 4, (.t 27))]), none⟩,
    ⟨(some 29), .op (.app 4 48 true (.t 10) (.t 28)), none⟩,
    ⟨(some 30), .op (.nilChk (.t 6)), none⟩,
    ⟨(some 31), .op (.fAddr 13 (.t 30)), none⟩,
    ⟨none, .op (.store 1 (.t 31) (.t 29)), none⟩]⟩
theorem c116 : chkFn Try.prog 116 e116 = true := by kernel_rfl
-- vestibule/restrict.with[int]
def e117 : IFn := ⟨[.tmp 6],
  .seq (.reg false [⟨(some 4), .op (.box (.t 1)), none⟩,
    ⟨(some 6), .op (.mov (.c (.nils))), none⟩])
  (.seq (.reg false [⟨(some 9), .op (.mov (.t 0)), none⟩,
    ⟨(some 10), .callF 91 [(.t 9)], none⟩,
    ⟨(some 11), .op (.mkF 130 [] [(.t 4)]), none⟩,
    ⟨(some 12), .callF 129 [(.t 10), (.t 11)], none⟩,
    ⟨(some 0), .op (.mov (.t 12)), none⟩])
  (.seq (.seq (.reg false [⟨(some 13), .op (.mov (.t 2)), none⟩,
    ⟨(some 14), .op (.un .not (.t 13)), none⟩])
  (.cond (.t 14) (.seq (.reg false [⟨(some 15), .op (.mov (.t 0)), none⟩,
    ⟨(some 6), .op (.mov (.t 15)), none⟩])
  (.ret)) (.skip)))
  (.seq (.reg false [⟨(some 17), .op (.mov (.t 0)), none⟩,
    ⟨(some 18), .op (.load1 (.t 4)), none⟩,
    ⟨(some 19), .callF 131 [(.t 17), (.t 18)], none⟩,
    ⟨(some 16), .op (.mov (.t 19)), none⟩,
    ⟨(some 20), .op (.ext (.t 16) 0), none⟩,
    ⟨(some 21), .op (.ext (.t 16) 1), none⟩,
    ⟨(some 7), .op (.mov (.t 20)), none⟩,
    ⟨(some 8), .op (.mov (.t 21)), none⟩])
  (.seq (.reg false [⟨(some 22), .op (.mov (.t 0)), none⟩,
    ⟨(some 23), .op (.mov (.t 7)), none⟩,
    ⟨(some 24), .op (.load1 (.t 4)), none⟩,
    ⟨(some 25), .op (.buildS 1 [.i .i64 0] [(0, 1, (.t 24))]), none⟩,
    ⟨(some 26), .callF 132 [(.t 22), (.t 23), (.t 25)], none⟩,
    ⟨(some 6), .op (.mov (.t 26)), none⟩])
  (.ret)))))⟩
theorem c117 : chkFn Try.prog 117 e117 = true := by kernel_rfl
-- vestibule/names.Family
def e118 : IFn := ⟨[.tmp 2, .tmp 3],
  .seq (.reg false [⟨(some 2), .op (.mov (.c (.i .u32 0))), none⟩,
    ⟨(some 3), .op (.mov (.c (.i .i64 0))), none⟩])
  (.seq (.reg false [⟨(some 5), .callF 133 [], none⟩,
    ⟨(some 4), .op (.alloc [.s [], .i .u32 0, .s [], .i .u32 0, .s [], .i .u32 0, .s [], .i .u32 0, .s [], .i .u32 0, .s [], .i .u32 0, .s [], .i .u32 0, .s [], .i .u32 0]), none⟩,
    ⟨none, .op (.store 16 (.t 4) (.t 5)), none⟩])
  (.seq (.reg false [⟨(some 6), .op (.slcA 8 2 (.t 4) none none none), none⟩,
    ⟨(some 7), .op (.mov (.t 0)), none⟩,
    ⟨(some 8), .callF 84 [(.t 6), (.t 7), (.c (.i .i64 180))], none⟩,
    ⟨(some 9), .op (.ext (.t 8) 0), none⟩,
    ⟨(some 10), .op (.ext (.t 8) 1), none⟩,
    ⟨(some 2), .op (.mov (.t 9)), none⟩,
    ⟨(some 3), .op (.mov (.t 10)), none⟩])
  (.ret)))⟩
theorem c118 : chkFn Try.prog 118 e118 = true := by kernel_rfl
-- vestibule/restrict.with[uint32]
def e119 : IFn := ⟨[.tmp 6],
  .seq (.reg false [⟨(some 4), .op (.box (.t 1)), none⟩,
    ⟨(some 6), .op (.mov (.c (.nils))), none⟩])
  (.seq (.reg false [⟨(some 9), .op (.mov (.t 0)), none⟩,
    ⟨(some 10), .callF 92 [(.t 9)], none⟩,
    ⟨(some 11), .op (.mkF 135 [] [(.t 4)]), none⟩,
    ⟨(some 12), .callF 134 [(.t 10), (.t 11)], none⟩,
    ⟨(some 0), .op (.mov (.t 12)), none⟩])
  (.seq (.seq (.reg false [⟨(some 13), .op (.mov (.t 2)), none⟩,
    ⟨(some 14), .op (.un .not (.t 13)), none⟩])
  (.cond (.t 14) (.seq (.reg false [⟨(some 15), .op (.mov (.t 0)), none⟩,
    ⟨(some 6), .op (.mov (.t 15)), none⟩])
  (.ret)) (.skip)))
  (.seq (.reg false [⟨(some 17), .op (.mov (.t 0)), none⟩,
    ⟨(some 18), .op (.load1 (.t 4)), none⟩,
    ⟨(some 19), .callF 136 [(.t 17), (.t 18)], none⟩,
    ⟨(some 16), .op (.mov (.t 19)), none⟩,
    ⟨(some 20), .op (.ext (.t 16) 0), none⟩,
    ⟨(some 21), .op (.ext (.t 16) 1), none⟩,
    ⟨(some 7), .op (.mov (.t 20)), none⟩,
    ⟨(some 8), .op (.mov (.t 21)), none⟩])
  (.seq (.reg false [⟨(some 22), .op (.mov (.t 0)), none⟩,
    ⟨(some 23), .op (.mov (.t 7)), none⟩,
    ⟨(some 24), .op (.load1 (.t 4)), none⟩,
    ⟨(some 25), .op (.buildS 1 [.i .u32 0] [(0, 1, (.t 24))]), none⟩,
    ⟨(some 26), .callF 137 [(.t 22), (.t 23), (.t 25)], none⟩,
    ⟨(some 6), .op (.mov (.t 26)), none⟩])
  (.ret)))))⟩
theorem c119 : chkFn Try.prog 119 e119 = true := by kernel_rfl
-- vestibule/names.Space
def e120 : IFn := ⟨[.tmp 2, .tmp 3],
  .seq (.reg false [⟨(some 2), .op (.mov (.c (.i .u64 0))), none⟩,
    ⟨(some 3), .op (.mov (.c (.i .i64 0))), none⟩])
  (.seq (.reg false [⟨(some 5), .callF 69 [], none⟩,
    ⟨(some 4), .op (.alloc [.s [], .i .u64 0, .s [], .i .u64 0, .s [], .i .u64 0, .s [], .i .u64 0, .s [], .i .u64 0, .s [], .i .u64 0, .s [], .i .u64 0, .s [], .i .u64 0]), none⟩,
    ⟨none, .op (.store 16 (.t 4) (.t 5)), none⟩])
  (.seq (.reg false [⟨(some 6), .op (.slcA 8 2 (.t 4) none none none), none⟩,
    ⟨(some 7), .op (.mov (.t 0)), none⟩,
    ⟨(some 8), .callF 138 [(.t 6), (.t 7), (.c (.i .i64 181))], none⟩,
    ⟨(some 9), .op (.ext (.t 8) 0), none⟩,
    ⟨(some 10), .op (.ext (.t 8) 1), none⟩,
    ⟨(some 2), .op (.mov (.t 9)), none⟩,
    ⟨(some 3), .op (.mov (.t 10)), none⟩])
  (.ret)))⟩
theorem c120 : chkFn Try.prog 120 e120 = true := by kernel_rfl
-- (*vestibule/restrict.setter).says
def e121 : IFn := ⟨[],
  .seq (.seq (.reg false [⟨(some 8), .op (.mov (.t 1)), none⟩,
    ⟨(some 9), .op (.bin .eql (.t 8) (.c (.s []))), none⟩])
  (.cond (.t 9) (.seq (.reg false [⟨(some 10), .op (.mov (.t 2)), none⟩,
    ⟨(some 11), .op (.nilChk (.t 10)), none⟩,
    ⟨none, .op (.store 1 (.t 11) (.c (.b false))), none⟩])
  (.ret)) (.skip)))
  (.seq (.reg false [⟨(some 13), .op (.mov (.t 1)), none⟩,
    ⟨(some 14), .callF 36 [(.t 13)], none⟩,
    ⟨(some 12), .op (.mov (.t 14)), none⟩,
    ⟨(some 15), .op (.ext (.t 12) 0), none⟩,
    ⟨(some 16), .op (.ext (.t 12) 1), none⟩,
    ⟨(some 6), .op (.mov (.t 15)), none⟩,
    ⟨(some 7), .op (.mov (.t 16)), none⟩])
  (.seq (.seq (.reg false [⟨(some 17), .op (.mov (.t 7)), none⟩,
    ⟨(some 18), .op (.bin .neq (.t 17) (.c (.i .i64 0))), none⟩])
  (.cond (.t 18) (.seq (.reg false [⟨(some 19), .op (.mov (.t 0)), none⟩,
    ⟨(some 20), .op (.mov (.t 7)), none⟩,
    ⟨(some 21), .op (.mov (.t 1)), none⟩,
    ⟨(some 22), .callF 116 [(.t 19), (.t 20), (.t 21)], none⟩])
  (.ret)) (.skip)))
  (.reg false [⟨(some 23), .op (.mov (.t 2)), none⟩,
    ⟨(some 24), .op (.mov (.t 6)), none⟩,
    ⟨(some 25), .op (.nilChk (.t 23)), none⟩,
    ⟨none, .op (.store 1 (.t 25) (.t 24)), none⟩])))⟩
theorem c121 : chkFn Try.prog 121 e121 = true := by kernel_rfl
-- vestibule/arch.find
def e127 : IFn := ⟨[.tmp 2],
  .seq (.reg false [⟨(some 2), .op (.mov (.c (.i .i64 0))), none⟩])
  (.seq (.reg false [⟨(some 4), .callF 155 [], none⟩,
    ⟨(some 3), .op (.alloc [.s [], .i .u32 0, .s [], .i .u32 0, .s [], .i .u32 0, .s [], .i .u32 0, .s [], .i .u32 0, .s [], .i .u32 0]), none⟩,
    ⟨none, .op (.store 12 (.t 3) (.t 4)), none⟩])
  (.seq (.reg false [⟨(some 5), .op (.slcA 6 2 (.t 3) none none none), none⟩,
    ⟨(some 6), .op (.mov (.t 0)), none⟩,
    ⟨(some 7), .callF 156 [(.t 5), (.t 6)], none⟩,
    ⟨(some 2), .op (.mov (.t 7)), none⟩])
  (.ret)))⟩
theorem c127 : chkFn Try.prog 127 e127 = true := by kernel_rfl
-- vestibule/arch.Parse$1
def e128 : IFn := ⟨[.tmp 3],
  .seq (.reg false [⟨(some 2), .op (.box (.t 0)), none⟩,
    ⟨(some 3), .op (.mov (.c (.b false))), none⟩])
  (.seq (.reg false [⟨(some 4), .op (.fAddr 0 (.t 2)), none⟩,
    ⟨(some 5), .op (.load1 (.t 4)), none⟩,
    ⟨(some 6), .op (.load1 (.t 1)), none⟩,
    ⟨(some 7), .op (.bin .eql (.t 5) (.t 6)), none⟩,
    ⟨(some 3), .op (.mov (.t 7)), none⟩])
  (.ret))⟩
theorem c128 : chkFn Try.prog 128 e128 = true := by kernel_rfl
-- slices.DeleteFunc[[]int,int]
def e129 : IFn := ⟨[.tmp 4],
  .seq (.reg false [⟨(some 4), .op (.mov (.c (.nils))), none⟩])
  (.seq (.reg false [⟨(some 8), .op (.mov (.t 0)), none⟩,
    ⟨(some 9), .op (.mov (.t 1)), none⟩,
    ⟨(some 10), .callF 157 [(.t 8), (.t 9)], none⟩,
    ⟨(some 5), .op (.mov (.t 10)), none⟩])
  (.seq (.seq (.reg false [⟨(some 11), .op (.mov (.t 5)), none⟩,
    ⟨(some 12), .op (.bin .eql (.t 11) (.c (.i .i64 (-1)))), none⟩])
  (.cond (.t 12) (.seq (.reg false [⟨(some 13), .op (.mov (.t 0)), none⟩,
    ⟨(some 4), .op (.mov (.t 13)), none⟩])
  (.ret)) (.skip)))
  (.seq (.seq (.reg false [⟨(some 14), .op (.mov (.t 5)), none⟩,
    ⟨(some 15), .op (.bin .add (.t 14) (.c (.i .i64 1))), none⟩,
    ⟨(some 6), .op (.mov (.t 15)), none⟩])
  (.blk 0 (.loop (.seq (.seq (.reg false [⟨(some 16), .op (.mov (.t 6)), none⟩,
    ⟨(some 17), .op (.mov (.t 0)), none⟩,
    ⟨(some 18), .op (.len false (.t 17)), none⟩,
    ⟨(some 19), .op (.bin .lss (.t 16) (.t 18)), none⟩])
  (.cond (.t 19) (.skip) (.exit 0)))
  (.seq (.blk 1 (.seq (.reg false [⟨(some 22), .op (.mov (.t 0)), none⟩,
    ⟨(some 23), .op (.mov (.t 6)), none⟩,
    ⟨(some 24), .op (.iAddrS 1 (.t 22) (.t 23)), none⟩,
    ⟨(some 25), .op (.load1 (.t 24)), none⟩,
    ⟨(some 7), .op (.mov (.t 25)), none⟩])
  (.seq (.reg false [⟨(some 26), .op (.mov (.t 1)), none⟩,
    ⟨(some 27), .op (.mov (.t 7)), none⟩,
    ⟨(some 28), .callV (.t 26) [(.t 27)], none⟩,
    ⟨(some 29), .op (.un .not (.t 28)), none⟩])
  (.cond (.t 29) (.seq (.reg false [⟨(some 30), .op (.mov (.t 0)), none⟩,
    ⟨(some 31), .op (.mov (.t 5)), none⟩,
    ⟨(some 32), .op (.mov (.t 7)), none⟩,
    ⟨(some 33), .op (.iAddrS 1 (.t 30) (.t 31)), none⟩,
    ⟨none, .op (.store 1 (.t 33) (.t 32)), none⟩])
  (.reg false [⟨(some 34), .op (.mov (.t 5)), none⟩,
    ⟨(some 35), .op (.bin .add (.t 34) (.c (.i .i64 1))), none⟩,
    ⟨(some 5), .op (.mov (.t 35)), none⟩])) (.skip)))))
  (.reg false [⟨(some 20), .op (.mov (.t 6)), none⟩,
    ⟨(some 21), .op (.bin .add (.t 20) (.c (.i .i64 1))), none⟩,
    ⟨(some 6), .op (.mov (.t 21)), none⟩]))))))
  (.seq (.reg false [⟨(some 36), .op (.mov (.t 0)), none⟩,
    ⟨(some 37), .op (.mov (.t 5)), none⟩,
    ⟨(some 38), .op (.slcS 1 (.t 36) (some (.t 37)) none none), none⟩,
    ⟨none, .op (.clear [.i .i64 0] (.t 38)), none⟩])
  (.seq (.reg false [⟨(some 39), .op (.mov (.t 0)), none⟩,
    ⟨(some 40), .op (.mov (.t 5)), none⟩,
    ⟨(some 41), .op (.slcS 1 (.t 39) none (some (.t 40)) none), none⟩,
    ⟨(some 4), .op (.mov (.t 41)), none⟩])
  (.ret))))))⟩
theorem c129 : chkFn Try.prog 129 e129 = true := by kernel_rfl
-- vestibule/restrict.with[int]$1
def e130 : IFn := ⟨[.tmp 3],
  .seq (.reg false [⟨(some 3), .op (.mov (.c (.b false))), none⟩])
  (.seq (.reg false [⟨(some 4), .op (.mov (.t 0)), none⟩,
    ⟨(some 5), .op (.load1 (.t 1)), none⟩,
    ⟨(some 6), .op (.bin .eql (.t 4) (.t 5)), none⟩,
    ⟨(some 3), .op (.mov (.t 6)), none⟩])
  (.ret))⟩
theorem c130 : chkFn Try.prog 130 e130 = true := by kernel_rfl
-- slices.BinarySearch[[]int,int]
def e131 : IFn := ⟨[.tmp 4, .tmp 5],
  .seq (.reg false [⟨(some 4), .op (.mov (.c (.i .i64 0))), none⟩,
    ⟨(some 5), .op (.mov (.c (.b false))), none⟩])
  (.seq (.reg false [⟨(some 10), .op (.mov (.t 0)), none⟩,
    ⟨(some 11), .op (.len false (.t 10)), none⟩,
    ⟨(some 6), .op (.mov (.t 11)), none⟩])
  (.seq (.reg false [⟨(some 12), .op (.mov (.t 6)), none⟩,
    ⟨(some 7), .op (.mov (.c (.i .i64 0))), none⟩,
    ⟨(some 8), .op (.mov (.t 12)), none⟩])
  (.seq (.blk 0 (.loop (.seq (.seq (.reg false [⟨(some 13), .op (.mov (.t 7)), none⟩,
    ⟨(some 14), .op (.mov (.t 8)), none⟩,
    ⟨(some 15), .op (.bin .lss (.t 13) (.t 14)), none⟩])
  (.cond (.t 15) (.skip) (.exit 0)))
  (.blk 1 (.seq (.reg false [⟨(some 16), .op (.mov (.t 7)), none⟩,
    ⟨(some 17), .op (.mov (.t 8)), none⟩,
    ⟨(some 18), .op (.bin .add (.t 16) (.t 17)), none⟩,
    ⟨(some 19), .op (.cvInt .u64 (.t 18)), none⟩,
    ⟨(some 20), .op (.bin .shr (.t 19) (.c (.i .u64 1))), none⟩,
    ⟨(some 21), .op (.cvInt .i64 (.t 20)), none⟩,
    ⟨(some 9), .op (.mov (.t 21)), none⟩])
  (.seq (.reg false [⟨(some 22), .op (.mov (.t 0)), none⟩,
    ⟨(some 23), .op (.mov (.t 9)), none⟩,
    ⟨(some 24), .op (.iAddrS 1 (.t 22) (.t 23)), none⟩,
    ⟨(some 25), .op (.load1 (.t 24)), none⟩,
    ⟨(some 26), .op (.mov (.t 1)), none⟩,
    ⟨(some 27), .callF 158 [(.t 25), (.t 26)], none⟩])
  (.cond (.t 27) (.reg false [⟨(some 28), .op (.mov (.t 9)), none⟩,
    ⟨(some 29), .op (.bin .add (.t 28) (.c (.i .i64 1))), none⟩,
    ⟨(some 7), .op (.mov (.t 29)), none⟩]) (.reg false [⟨(some 30), .op (.mov (.t 9)), none⟩,
    ⟨(some 8), .op (.mov (.t 30)), none⟩]))))))))
  (.seq (.reg false [⟨(some 31), .op (.mov (.t 7)), none⟩,
    ⟨(some 32), .op (.mov (.t 7)), none⟩,
    ⟨(some 33), .op (.mov (.t 6)), none⟩,
    ⟨(some 34), .op (.bin .lss (.t 32) (.t 33)), none⟩,
    ⟨(some 35), .op (.mov (.t 34)), none⟩,
    ⟨(some 36), .op (.mov (.t 0)), (some (35, true))⟩,
    ⟨(some 37), .op (.mov (.t 7)), (some (35, true))⟩,
    ⟨(some 38), .op (.iAddrS 1 (.t 36) (.t 37)), (some (35, true))⟩,
    ⟨(some 39), .op (.load1 (.t 38)), (some (35, true))⟩,
    ⟨(some 40), .op (.mov (.t 1)), (some (35, true))⟩,
    ⟨(some 41), .op (.bin .eql (.t 39) (.t 40)), (some (35, true))⟩,
    ⟨(some 42), .op (.mov (.t 41)), (some (35, true))⟩,
    ⟨(some 43), .op (.mov (.t 0)), (some (42, false))⟩,
    ⟨(some 44), .op (.mov (.t 7)), (some (42, false))⟩,
    ⟨(some 45), .op (.iAddrS 1 (.t 43) (.t 44)), (some (42, false))⟩,
    ⟨(some 46), .op (.load1 (.t 45)), (some (42, false))⟩,
    ⟨(some 47), .callF 159 [(.t 46)], (some (42, false))⟩,
    ⟨(some 48), .op (.mov (.t 47)), (some (42, false))⟩,
    ⟨(some 49), .op (.mov (.t 1)), (some (48, true))⟩,
    ⟨(some 50), .callF 159 [(.t 49)], (some (48, true))⟩,
    ⟨(some 51), .op (.pick (.t 48) (.t 50) (.c (.b false))), (some (42, false))⟩,
    ⟨(some 52), .op (.pick (.t 42) (.c (.b true)) (.t 51)), (some (35, true))⟩,
    ⟨(some 53), .op (.pick (.t 35) (.t 52) (.c (.b false))), none⟩,
    ⟨(some 4), .op (.mov (.t 31)), none⟩,
    ⟨(some 5), .op (.mov (.t 53)), none⟩])
  (.ret)))))⟩
theorem c131 : chkFn Try.prog 131 e131 = true := by kernel_rfl
-- slices.Insert[[]int,int]
def e132 : IFn := ⟨[.tmp 6],
  .seq (.reg false [⟨(some 6), .op (.mov (.c (.nils))), none⟩])
  (.seq (.reg false [⟨(some 10), .op (.mov (.t 0)), none⟩,
    ⟨(some 11), .op (.mov (.t 1)), none⟩,
    ⟨(some 12), .op (.slcS 1 (.t 10) (some (.t 11)) none none), none⟩])
  (.seq (.reg false [⟨(some 13), .op (.mov (.t 2)), none⟩,
    ⟨(some 14), .op (.len false (.t 13)), none⟩,
    ⟨(some 7), .op (.mov (.t 14)), none⟩])
  (.seq (.seq (.reg false [⟨(some 15), .op (.mov (.t 7)), none⟩,
    ⟨(some 16), .op (.bin .eql (.t 15) (.c (.i .i64 0))), none⟩])
  (.cond (.t 16) (.seq (.reg false [⟨(some 17), .op (.mov (.t 0)), none⟩,
    ⟨(some 6), .op (.mov (.t 17)), none⟩])
  (.ret)) (.skip)))
  (.seq (.reg false [⟨(some 18), .op (.mov (.t 0)), none⟩,
    ⟨(some 19), .op (.len false (.t 18)), none⟩,
    ⟨(some 8), .op (.mov (.t 19)), none⟩])
  (.seq (.seq (.reg false [⟨(some 20), .op (.mov (.t 1)), none⟩,
    ⟨(some 21), .op (.mov (.t 8)), none⟩,
    ⟨(some 22), .op (.bin .eql (.t 20) (.t 21)), none⟩])
  (.cond (.t 22) (.seq (.reg false [⟨(some 23), .op (.mov (.t 0)), none⟩,
    ⟨(some 24), .op (.mov (.t 2)), none⟩,
    ⟨(some 25), .op (.app 1 8 true (.t 23) (.t 24)), none⟩,
    ⟨(some 6), .op (.mov (.t 25)), none⟩])
  (.ret)) (.skip)))
  (.seq (.seq (.reg false [⟨(some 26), .op (.mov (.t 8)), none⟩,
    ⟨(some 27), .op (.mov (.t 7)), none⟩,
    ⟨(some 28), .op (.bin .add (.t 26) (.t 27)), none⟩,
    ⟨(some 29), .op (.mov (.t 0)), none⟩,
    ⟨(some 30), .op (.cap (.t 29)), none⟩,
    ⟨(some 31), .op (.bin .gtr (.t 28) (.t 30)), none⟩])
  (.cond (.t 31) (.seq (.reg false [⟨(some 32), .op (.mov (.t 0)), none⟩,
    ⟨(some 33), .op (.mov (.t 1)), none⟩,
    ⟨(some 34), .op (.slcS 1 (.t 32) none (some (.t 33)) none), none⟩,
    ⟨(some 35), .op (.mov (.t 8)), none⟩,
    ⟨(some 36), .op (.mov (.t 7)), none⟩,
    ⟨(some 37), .op (.bin .add (.t 35) (.t 36)), none⟩,
    ⟨(some 38), .op (.mov (.t 1)), none⟩,
    ⟨(some 39), .op (.bin .sub (.t 37) (.t 38)), none⟩,
    ⟨(some 40), .op (.appZ 1 8 [.i .i64 0] (.t 34) (.t 39)), none⟩,
    ⟨(some 9), .op (.mov (.t 40)), none⟩])
  (.seq (.reg false [⟨(some 41), .op (.mov (.t 9)), none⟩,
    ⟨(some 42), .op (.mov (.t 1)), none⟩,
    ⟨(some 43), .op (.slcS 1 (.t 41) (some (.t 42)) none none), none⟩,
    ⟨(some 44), .op (.mov (.t 2)), none⟩,
    ⟨(some 45), .op (.copy 1 (.t 43) (.t 44)), none⟩])
  (.seq (.reg true [⟨(some 46), .op (.mov (.t 9)), none⟩,
    ⟨(some 47), .op (.mov (.t 1)), none⟩,
    ⟨(some 48), .op (.mov (.t 7)), none⟩,
    ⟨(some 49), .op (.bin .add (.t 47) (.t 48)), none⟩,
    ⟨(some 50), .op (.slcS 1 (.t 46) (some (.t 49)) none none), none⟩,
    ⟨(some 51), .op (.mov (.t 0)), none⟩,
    ⟨(some 52), .op (.mov (.t 1)), none⟩,
    ⟨(some 53), .op (.slcS 1 (.t 51) (some (.t 52)) none none), none⟩,
    ⟨(some 54), .op (.copy 1 (.t 50) (.t 53)), none⟩])
  (.seq (.reg false [⟨(some 55), .op (.mov (.t 9)), none⟩,
    ⟨(some 6), .op (.mov (.t 55)), none⟩])
  (.ret))))) (.skip)))
  (.seq (.reg false [⟨(some 56), .op (.mov (.t 0)), none⟩,
    ⟨(some 57), .op (.mov (.t 8)), none⟩,
    ⟨(some 58), .op (.mov (.t 7)), none⟩,
    ⟨(some 59), .op (.bin .add (.t 57) (.t 58)), none⟩,
    ⟨(some 60), .op (.slcS 1 (.t 56) none (some (.t 59)) none), none⟩,
    ⟨(some 0), .op (.mov (.t 60)), none⟩])
  (.seq (.seq (.reg false [⟨(some 61), .op (.mov (.t 2)), none⟩,
    ⟨(some 62), .op (.mov (.t 0)), none⟩,
    ⟨(some 63), .op (.mov (.t 1)), none⟩,
    ⟨(some 64), .op (.mov (.t 7)), none⟩,
    ⟨(some 65), .op (.bin .add (.t 63) (.t 64)), none⟩,
    ⟨(some 66), .op (.slcS 1 (.t 62) (some (.t 65)) none none), none⟩,
    ⟨(some 67), .callF 160 [(.t 61), (.t 66)], none⟩,
    ⟨(some 68), .op (.un .not (.t 67)), none⟩])
  (.cond (.t 68) (.seq (.reg true [⟨(some 69), .op (.mov (.t 0)), none⟩,
    ⟨(some 70), .op (.mov (.t 1)), none⟩,
    ⟨(some 71), .op (.mov (.t 7)), none⟩,
    ⟨(some 72), .op (.bin .add (.t 70) (.t 71)), none⟩,
    ⟨(some 73), .op (.slcS 1 (.t 69) (some (.t 72)) none none), none⟩,
    ⟨(some 74), .op (.mov (.t 0)), none⟩,
    ⟨(some 75), .op (.mov (.t 1)), none⟩,
    ⟨(some 76), .op (.slcS 1 (.t 74) (some (.t 75)) none none), none⟩,
    ⟨(some 77), .op (.copy 1 (.t 73) (.t 76)), none⟩])
  (.seq (.reg false [⟨(some 78), .op (.mov (.t 0)), none⟩,
    ⟨(some 79), .op (.mov (.t 1)), none⟩,
    ⟨(some 80), .op (.slcS 1 (.t 78) (some (.t 79)) none none), none⟩,
    ⟨(some 81), .op (.mov (.t 2)), none⟩,
    ⟨(some 82), .op (.copy 1 (.t 80) (.t 81)), none⟩])
  (.seq (.reg false [⟨(some 83), .op (.mov (.t 0)), none⟩,
    ⟨(some 6), .op (.mov (.t 83)), none⟩])
  (.ret)))) (.skip)))
  (.seq (.reg false [⟨(some 84), .op (.mov (.t 0)), none⟩,
    ⟨(some 85), .op (.mov (.t 8)), none⟩,
    ⟨(some 86), .op (.slcS 1 (.t 84) (some (.t 85)) none none), none⟩,
    ⟨(some 87), .op (.mov (.t 2)), none⟩,
    ⟨(some 88), .op (.copy 1 (.t 86) (.t 87)), none⟩])
  (.seq (.reg false [⟨(some 89), .op (.mov (.t 0)), none⟩,
    ⟨(some 90), .op (.mov (.t 1)), none⟩,
    ⟨(some 91), .op (.slcS 1 (.t 89) (some (.t 90)) none none), none⟩,
    ⟨(some 92), .op (.mov (.t 7)), none⟩,
    ⟨(some 93), .callF 161 [(.t 91), (.t 92)], none⟩])
  (.seq (.reg false [⟨(some 94), .op (.mov (.t 0)), none⟩,
    ⟨(some 6), .op (.mov (.t 94)), none⟩])
  (.ret))))))))))))⟩
theorem c132 : chkFn Try.prog 132 e132 = true := by kernel_rfl
-- vestibule/names.families
def e133 : IFn := ⟨[.cell 0 16 true],
  .seq (.reg false [⟨(some 0), .op (.alloc [.s [], .i .u32 0, .s [], .i .u32 0, .s [], .i .u32 0, .s [], .i .u32 0, .s [], .i .u32 0, .s [], .i .u32 0, .s [], .i .u32 0, .s [], .i .u32 0]), none⟩])
  (.seq (.reg false [⟨(some 1), .op (.build [.s [], .i .u32 0] [(0, 1, (.c (.s [65, 70, 95, 85, 78, 73, 88]))), (1, 1, (.c (.i .u32 1)))]), none⟩,
    ⟨(some 2), .op (.build [.s [], .i .u32 0] [(0, 1, (.c (.s [65, 70, 95, 73, 78, 69, 84]))), (1, 1, (.c (.i .u32 2)))]), none⟩,
    ⟨(some 3), .op (.build [.s [], .i .u32 0] [(0, 1, (.c (.s [65, 70, 95, 73, 78, 69, 84, 54]))), (1, 1, (.c (.i .u32 10)))]), none⟩,
    ⟨(some 4), .op (.build [.s [], .i .u32 0] [(0, 1, (.c (.s [65, 70, 95, 78, 69, 84, 76, 73, 78, 75]))), (1, 1, (.c (.i .u32 16)))]), none⟩,
    ⟨(some 5), .op (.build [.s [], .i .u32 0] [(0, 1, (.c (.s [65, 70, 95, 80, 65, 67, 75, 69, 84]))), (1, 1, (.c (.i .u32 17)))]), none⟩,
    ⟨(some 6), .op (.build [.s [], .i .u32 0] [(0, 1, (.c (.s [65, 70, 95, 66, 76, 85, 69, 84, 79, 79, 84, 72]))), (1, 1, (.c (.i .u32 31)))]), none⟩,
    ⟨(some 7), .op (.build [.s [], .i .u32 0] [(0, 1, (.c (.s [65, 70, 95, 65, 76, 71]))), (1, 1, (.c (.i .u32 38)))]), none⟩,
    ⟨(some 8), .op (.build [.s [], .i .u32 0] [(0, 1, (.c (.s [65, 70, 95, 86, 83, 79, 67, 75]))), (1, 1, (.c (.i .u32 40)))]), none⟩,
    ⟨(some 9), .op (.build [.s [], .i .u32 0, .s [], .i .u32 0, .s [], .i .u32 0, .s [], .i .u32 0, .s [], .i .u32 0, .s [], .i .u32 0, .s [], .i .u32 0, .s [], .i .u32 0] [(0, 2, (.t 1)), (2, 2, (.t 2)), (4, 2, (.t 3)), (6, 2, (.t 4)), (8, 2, (.t 5)), (10, 2, (.t 6)), (12, 2, (.t 7)), (14, 2, (.t 8))]), none⟩,
    ⟨none, .op (.store 16 (.t 0) (.t 9)), none⟩])
  (.ret))⟩
theorem c133 : chkFn Try.prog 133 e133 = true := by kernel_rfl
-- slices.DeleteFunc[[]uint32,uint32]
def e134 : IFn := ⟨[.tmp 4],
  .seq (.reg false [⟨(some 4), .op (.mov (.c (.nils))), none⟩])
  (.seq (.reg false [⟨(some 8), .op (.mov (.t 0)), none⟩,
    ⟨(some 9), .op (.mov (.t 1)), none⟩,
    ⟨(some 10), .callF 162 [(.t 8), (.t 9)], none⟩,
    ⟨(some 5), .op (.mov (.t 10)), none⟩])
  (.seq (.seq (.reg false [⟨(some 11), .op (.mov (.t 5)), none⟩,
    ⟨(some 12), .op (.bin .eql (.t 11) (.c (.i .i64 (-1)))), none⟩])
  (.cond (.t 12) (.seq (.reg false [⟨(some 13), .op (.mov (.t 0)), none⟩,
    ⟨(some 4), .op (.mov (.t 13)), none⟩])
  (.ret)) (.skip)))
  (.seq (.seq (.reg false [⟨(some 14), .op (.mov (.t 5)), none⟩,
    ⟨(some 15), .op (.bin .add (.t 14) (.c (.i .i64 1))), none⟩,
    ⟨(some 6), .op (.mov (.t 15)), none⟩])
  (.blk 0 (.loop (.seq (.seq (.reg false [⟨(some 16), .op (.mov (.t 6)), none⟩,
    ⟨(some 17), .op (.mov (.t 0)), none⟩,
    ⟨(some 18), .op (.len false (.t 17)), none⟩,
    ⟨(some 19), .op (.bin .lss (.t 16) (.t 18)), none⟩])
  (.cond (.t 19) (.skip) (.exit 0)))
  (.seq (.blk 1 (.seq (.reg false [⟨(some 22), .op (.mov (.t 0)), none⟩,
    ⟨(some 23), .op (.mov (.t 6)), none⟩,
    ⟨(some 24), .op (.iAddrS 1 (.t 22) (.t 23)), none⟩,
    ⟨(some 25), .op (.load1 (.t 24)), none⟩,
    ⟨(some 7), .op (.mov (.t 25)), none⟩])
  (.seq (.reg false [⟨(some 26), .op (.mov (.t 1)), none⟩,
    ⟨(some 27), .op (.mov (.t 7)), none⟩,
    ⟨(some 28), .callV (.t 26) [(.t 27)], none⟩,
    ⟨(some 29), .op (.un .not (.t 28)), none⟩])
  (.cond (.t 29) (.seq (.reg false [⟨(some 30), .op (.mov (.t 0)), none⟩,
    ⟨(some 31), .op (.mov (.t 5)), none⟩,
    ⟨(some 32), .op (.mov (.t 7)), none⟩,
    ⟨(some 33), .op (.iAddrS 1 (.t 30) (.t 31)), none⟩,
    ⟨none, .op (.store 1 (.t 33) (.t 32)), none⟩])
  (.reg false [⟨(some 34), .op (.mov (.t 5)), none⟩,
    ⟨(some 35), .op (.bin .add (.t 34) (.c (.i .i64 1))), none⟩,
    ⟨(some 5), .op (.mov (.t 35)), none⟩])) (.skip)))))
  (.reg false [⟨(some 20), .op (.mov (.t 6)), none⟩,
    ⟨(some 21), .op (.bin .add (.t 20) (.c (.i .i64 1))), none⟩,
    ⟨(some 6), .op (.mov (.t 21)), none⟩]))))))
  (.seq (.reg false [⟨(some 36), .op (.mov (.t 0)), none⟩,
    ⟨(some 37), .op (.mov (.t 5)), none⟩,
    ⟨(some 38), .op (.slcS 1 (.t 36) (some (.t 37)) none none), none⟩,
    ⟨none, .op (.clear [.i .u32 0] (.t 38)), none⟩])
  (.seq (.reg false [⟨(some 39), .op (.mov (.t 0)), none⟩,
    ⟨(some 40), .op (.mov (.t 5)), none⟩,
    ⟨(some 41), .op (.slcS 1 (.t 39) none (some (.t 40)) none), none⟩,
    ⟨(some 4), .op (.mov (.t 41)), none⟩])
  (.ret))))))⟩
theorem c134 : chkFn Try.prog 134 e134 = true := by kernel_rfl
-- vestibule/restrict.with[uint32]$1
def e135 : IFn := ⟨[.tmp 3],
  .seq (.reg false [⟨(some 3), .op (.mov (.c (.b false))), none⟩])
  (.seq (.reg false [⟨(some 4), .op (.mov (.t 0)), none⟩,
    ⟨(some 5), .op (.load1 (.t 1)), none⟩,
    ⟨(some 6), .op (.bin .eql (.t 4) (.t 5)), none⟩,
    ⟨(some 3), .op (.mov (.t 6)), none⟩])
  (.ret))⟩
theorem c135 : chkFn Try.prog 135 e135 = true := by kernel_rfl
-- slices.BinarySearch[[]uint32,uint32]
def e136 : IFn := ⟨[.tmp 4, .tmp 5],
  .seq (.reg false [⟨(some 4), .op (.mov (.c (.i .i64 0))), none⟩,
    ⟨(some 5), .op (.mov (.c (.b false))), none⟩])
  (.seq (.reg false [⟨(some 10), .op (.mov (.t 0)), none⟩,
    ⟨(some 11), .op (.len false (.t 10)), none⟩,
    ⟨(some 6), .op (.mov (.t 11)), none⟩])
  (.seq (.reg false [⟨(some 12), .op (.mov (.t 6)), none⟩,
    ⟨(some 7), .op (.mov (.c (.i .i64 0))), none⟩,
    ⟨(some 8), .op (.mov (.t 12)), none⟩])
  (.seq (.blk 0 (.loop (.seq (.seq (.reg false [⟨(some 13), .op (.mov (.t 7)), none⟩,
    ⟨(some 14), .op (.mov (.t 8)), none⟩,
    ⟨(some 15), .op (.bin .lss (.t 13) (.t 14)), none⟩])
  (.cond (.t 15) (.skip) (.exit 0)))
  (.blk 1 (.seq (.reg false [⟨(some 16), .op (.mov (.t 7)), none⟩,
    ⟨(some 17), .op (.mov (.t 8)), none⟩,
    ⟨(some 18), .op (.bin .add (.t 16) (.t 17)), none⟩,
    ⟨(some 19), .op (.cvInt .u64 (.t 18)), none⟩,
    ⟨(some 20), .op (.bin .shr (.t 19) (.c (.i .u64 1))), none⟩,
    ⟨(some 21), .op (.cvInt .i64 (.t 20)), none⟩,
    ⟨(some 9), .op (.mov (.t 21)), none⟩])
  (.seq (.reg false [⟨(some 22), .op (.mov (.t 0)), none⟩,
    ⟨(some 23), .op (.mov (.t 9)), none⟩,
    ⟨(some 24), .op (.iAddrS 1 (.t 22) (.t 23)), none⟩,
    ⟨(some 25), .op (.load1 (.t 24)), none⟩,
    ⟨(some 26), .op (.mov (.t 1)), none⟩,
    ⟨(some 27), .callF 163 [(.t 25), (.t 26)], none⟩])
  (.cond (.t 27) (.reg false [⟨(some 28), .op (.mov (.t 9)), none⟩,
    ⟨(some 29), .op (.bin .add (.t 28) (.c (.i .i64 1))), none⟩,
    ⟨(some 7), .op (.mov (.t 29)), none⟩]) (.reg false [⟨(some 30), .op (.mov (.t 9)), none⟩,
    ⟨(some 8), .op (.mov (.t 30)), none⟩]))))))))
  (.seq (.reg false [⟨(some 31), .op (.mov (.t 7)), none⟩,
    ⟨(some 32), .op (.mov (.t 7)), none⟩,
    ⟨(some 33), .op (.mov (.t 6)), none⟩,
    ⟨(some 34), .op (.bin .lss (.t 32) (.t 33)), none⟩,
    ⟨(some 35), .op (.mov (.t 34)), none⟩,
    ⟨(some 36), .op (.mov (.t 0)), (some (35, true))⟩,
    ⟨(some 37), .op (.mov (.t 7)), (some (35, true))⟩,
    ⟨(some 38), .op (.iAddrS 1 (.t 36) (.t 37)), (some (35, true))⟩,
    ⟨(some 39), .op (.load1 (.t 38)), (some (35, true))⟩,
    ⟨(some 40), .op (.mov (.t 1)), (some (35, true))⟩,
    ⟨(some 41), .op (.bin .eql (.t 39) (.t 40)), (some (35, true))⟩,
    ⟨(some 42), .op (.mov (.t 41)), (some (35, true))⟩,
    ⟨(some 43), .op (.mov (.t 0)), (some (42, false))⟩,
    ⟨(some 44), .op (.mov (.t 7)), (some (42, false))⟩,
    ⟨(some 45), .op (.iAddrS 1 (.t 43) (.t 44)), (some (42, false))⟩,
    ⟨(some 46), .op (.load1 (.t 45)), (some (42, false))⟩,
    ⟨(some 47), .callF 164 [(.t 46)], (some (42, false))⟩,
    ⟨(some 48), .op (.mov (.t 47)), (some (42, false))⟩,
    ⟨(some 49), .op (.mov (.t 1)), (some (48, true))⟩,
    ⟨(some 50), .callF 164 [(.t 49)], (some (48, true))⟩,
    ⟨(some 51), .op (.pick (.t 48) (.t 50) (.c (.b false))), (some (42, false))⟩,
    ⟨(some 52), .op (.pick (.t 42) (.c (.b true)) (.t 51)), (some (35, true))⟩,
    ⟨(some 53), .op (.pick (.t 35) (.t 52) (.c (.b false))), none⟩,
    ⟨(some 4), .op (.mov (.t 31)), none⟩,
    ⟨(some 5), .op (.mov (.t 53)), none⟩])
  (.ret)))))⟩
theorem c136 : chkFn Try.prog 136 e136 = true := by kernel_rfl
-- slices.Insert[[]uint32,uint32]
def e137 : IFn := ⟨[.tmp 6],
  .seq (.reg false [⟨(some 6), .op (.mov (.c (.nils))), none⟩])
  (.seq (.reg false [⟨(some 10), .op (.mov (.t 0)), none⟩,
    ⟨(some 11), .op (.mov (.t 1)), none⟩,
    ⟨(some 12), .op (.slcS 1 (.t 10) (some (.t 11)) none none), none⟩])
  (.seq (.reg false [⟨(some 13), .op (.mov (.t 2)), none⟩,
    ⟨(some 14), .op (.len false (.t 13)), none⟩,
    ⟨(some 7), .op (.mov (.t 14)), none⟩])
  (.seq (.seq (.reg false [⟨(some 15), .op (.mov (.t 7)), none⟩,
    ⟨(some 16), .op (.bin .eql (.t 15) (.c (.i .i64 0))), none⟩])
  (.cond (.t 16) (.seq (.reg false [⟨(some 17), .op (.mov (.t 0)), none⟩,
    ⟨(some 6), .op (.mov (.t 17)), none⟩])
  (.ret)) (.skip)))
  (.seq (.reg false [⟨(some 18), .op (.mov (.t 0)), none⟩,
    ⟨(some 19), .op (.len false (.t 18)), none⟩,
    ⟨(some 8), .op (.mov (.t 19)), none⟩])
  (.seq (.seq (.reg false [⟨(some 20), .op (.mov (.t 1)), none⟩,
    ⟨(some 21), .op (.mov (.t 8)), none⟩,
    ⟨(some 22), .op (.bin .eql (.t 20) (.t 21)), none⟩])
  (.cond (.t 22) (.seq (.reg false [⟨(some 23), .op (.mov (.t 0)), none⟩,
    ⟨(some 24), .op (.mov (.t 2)), none⟩,
    ⟨(some 25), .op (.app 1 4 true (.t 23) (.t 24)), none⟩,
    ⟨(some 6), .op (.mov (.t 25)), none⟩])
  (.ret)) (.skip)))
  (.seq (.seq (.reg false [⟨(some 26), .op (.mov (.t 8)), none⟩,
    ⟨(some 27), .op (.mov (.t 7)), none⟩,
    ⟨(some 28), .op (.bin .add (.t 26) (.t 27)), none⟩,
    ⟨(some 29), .op (.mov (.t 0)), none⟩,
    ⟨(some 30), .op (.cap (.t 29)), none⟩,
    ⟨(some 31), .op (.bin .gtr (.t 28) (.t 30)), none⟩])
  (.cond (.t 31) (.seq (.reg false [⟨(some 32), .op (.mov (.t 0)), none⟩,
    ⟨(some 33), .op (.mov (.t 1)), none⟩,
    ⟨(some 34), .op (.slcS 1 (.t 32) none (some (.t 33)) none), none⟩,
    ⟨(some 35), .op (.mov (.t 8)), none⟩,
    ⟨(some 36), .op (.mov (.t 7)), none⟩,
    ⟨(some 37), .op (.bin .add (.t 35) (.t 36)), none⟩,
    ⟨(some 38), .op (.mov (.t 1)), none⟩,
    ⟨(some 39), .op (.bin .sub (.t 37) (.t 38)), none⟩,
    ⟨(some 40), .op (.appZ 1 4 [.i .u32 0] (.t 34) (.t 39)), none⟩,
    ⟨(some 9), .op (.mov (.t 40)), none⟩])
  (.seq (.reg false [⟨(some 41), .op (.mov (.t 9)), none⟩,
    ⟨(some 42), .op (.mov (.t 1)), none⟩,
    ⟨(some 43), .op (.slcS 1 (.t 41) (some (.t 42)) none none), none⟩,
    ⟨(some 44), .op (.mov (.t 2)), none⟩,
    ⟨(some 45), .op (.copy 1 (.t 43) (.t 44)), none⟩])
  (.seq (.reg true [⟨(some 46), .op (.mov (.t 9)), none⟩,
    ⟨(some 47), .op (.mov (.t 1)), none⟩,
    ⟨(some 48), .op (.mov (.t 7)), none⟩,
    ⟨(some 49), .op (.bin .add (.t 47) (.t 48)), none⟩,
    ⟨(some 50), .op (.slcS 1 (.t 46) (some (.t 49)) none none), none⟩,
    ⟨(some 51), .op (.mov (.t 0)), none⟩,
    ⟨(some 52), .op (.mov (.t 1)), none⟩,
    ⟨(some 53), .op (.slcS 1 (.t 51) (some (.t 52)) none none), none⟩,
    ⟨(some 54), .op (.copy 1 (.t 50) (.t 53)), none⟩])
  (.seq (.reg false [⟨(some 55), .op (.mov (.t 9)), none⟩,
    ⟨(some 6), .op (.mov (.t 55)), none⟩])
  (.ret))))) (.skip)))
  (.seq (.reg false [⟨(some 56), .op (.mov (.t 0)), none⟩,
    ⟨(some 57), .op (.mov (.t 8)), none⟩,
    ⟨(some 58), .op (.mov (.t 7)), none⟩,
    ⟨(some 59), .op (.bin .add (.t 57) (.t 58)), none⟩,
    ⟨(some 60), .op (.slcS 1 (.t 56) none (some (.t 59)) none), none⟩,
    ⟨(some 0), .op (.mov (.t 60)), none⟩])
  (.seq (.seq (.reg false [⟨(some 61), .op (.mov (.t 2)), none⟩,
    ⟨(some 62), .op (.mov (.t 0)), none⟩,
    ⟨(some 63), .op (.mov (.t 1)), none⟩,
    ⟨(some 64), .op (.mov (.t 7)), none⟩,
    ⟨(some 65), .op (.bin .add (.t 63) (.t 64)), none⟩,
    ⟨(some 66), .op (.slcS 1 (.t 62) (some (.t 65)) none none), none⟩,
    ⟨(some 67), .callF 165 [(.t 61), (.t 66)], none⟩,
    ⟨(some 68), .op (.un .not (.t 67)), none⟩])
  (.cond (.t 68) (.seq (.reg true [⟨(some 69), .op (.mov (.t 0)), none⟩,
    ⟨(some 70), .op (.mov (.t 1)), none⟩,
    ⟨(some 71), .op (.mov (.t 7)), none⟩,
    ⟨(some 72), .op (.bin .add (.t 70) (.t 71)), none⟩,
    ⟨(some 73), .op (.slcS 1 (.t 69) (some (.t 72)) none none), none⟩,
    ⟨(some 74), .op (.mov (.t 0)), none⟩,
    ⟨(some 75), .op (.mov (.t 1)), none⟩,
    ⟨(some 76), .op (.slcS 1 (.t 74) (some (.t 75)) none none), none⟩,
    ⟨(some 77), .op (.copy 1 (.t 73) (.t 76)), none⟩])
  (.seq (.reg false [⟨(some 78), .op (.mov (.t 0)), none⟩,
    ⟨(some 79), .op (.mov (.t 1)), none⟩,
    ⟨(some 80), .op (.slcS 1 (.t 78) (some (.t 79)) none none), none⟩,
    ⟨(some 81), .op (.mov (.t 2)), none⟩,
    ⟨(some 82), .op (.copy 1 (.t 80) (.t 81)), none⟩])
  (.seq (.reg false [⟨(some 83), .op (.mov (.t 0)), none⟩,
    ⟨(some 6), .op (.mov (.t 83)), none⟩])
  (.ret)))) (.skip)))
  (.seq (.reg false [⟨(some 84), .op (.mov (.t 0)), none⟩,
    ⟨(some 85), .op (.mov (.t 8)), none⟩,
    ⟨(some 86), .op (.slcS 1 (.t 84) (some (.t 85)) none none), none⟩,
    ⟨(some 87), .op (.mov (.t 2)), none⟩,
    ⟨(some 88), .op (.copy 1 (.t 86) (.t 87)), none⟩])
  (.seq (.reg false [⟨(some 89), .op (.mov (.t 0)), none⟩,
    ⟨(some 90), .op (.mov (.t 1)), none⟩,
    ⟨(some 91), .op (.slcS 1 (.t 89) (some (.t 90)) none none), none⟩,
    ⟨(some 92), .op (.mov (.t 7)), none⟩,
    ⟨(some 93), .callF 166 [(.t 91), (.t 92)], none⟩])
  (.seq (.reg false [⟨(some 94), .op (.mov (.t 0)), none⟩,
    ⟨(some 6), .op (.mov (.t 94)), none⟩])
  (.ret))))))))))))⟩
theorem c137 : chkFn Try.prog 137 e137 = true := by kernel_rfl
-- vestibule/names.find[uint64]
def e138 : IFn := ⟨[.tmp 6, .tmp 7],
  .seq (.reg false [⟨(some 6), .op (.mov (.c (.i .u64 0))), none⟩,
    ⟨(some 7), .op (.mov (.c (.i .i64 0))), none⟩])
  (.seq (.seq (.reg false [⟨(some 11), .op (.mov (.t 0)), none⟩,
    ⟨(some 12), .op (.len false (.t 11)), none⟩,
    ⟨(some 13), .op (.mov (.c (.i .i64 0))), none⟩])
  (.blk 0 (.loop (.seq (.reg false [⟨(some 14), .op (.bin .lss (.t 13) (.t 12)), none⟩])
  (.seq (.cond (.t 14) (.skip) (.exit 0))
  (.seq (.blk 1 (.seq (.reg false [⟨(some 15), .op (.iAddrS 2 (.t 11) (.t 13)), none⟩,
    ⟨(some 16), .op (.loadN 2 (.t 15)), none⟩,
    ⟨(some 9), .op (.alloc [.s [], .i .u64 0]), none⟩,
    ⟨none, .op (.store 2 (.t 9) (.t 16)), none⟩])
  (.seq (.reg false [⟨(some 17), .op (.fAddr 0 (.t 9)), none⟩,
    ⟨(some 18), .op (.load1 (.t 17)), none⟩,
    ⟨(some 19), .op (.mov (.t 1)), none⟩,
    ⟨(some 20), .op (.bin .eql (.t 18) (.t 19)), none⟩])
  (.cond (.t 20) (.seq (.reg false [⟨(some 21), .op (.fAddr 1 (.t 9)), none⟩,
    ⟨(some 22), .op (.load1 (.t 21)), none⟩,
    ⟨(some 6), .op (.mov (.t 22)), none⟩,
    ⟨(some 7), .op (.mov (.c (.i .i64 0))), none⟩])
  (.ret)) (.skip)))))
  (.reg false [⟨(some 23), .op (.bin .add (.t 13) (.c (.i .i64 1))), none⟩,
    ⟨(some 13), .op (.mov (.t 23)), none⟩])))))))
  (.seq (.reg false [⟨(some 10), .op (.mov (.c (.i .u64 0))), none⟩])
  (.seq (.reg false [⟨(some 24), .op (.mov (.t 10)), none⟩,
    ⟨(some 25), .op (.mov (.t 2)), none⟩,
    ⟨(some 6), .op (.mov (.t 24)), none⟩,
    ⟨(some 7), .op (.mov (.t 25)), none⟩])
  (.ret))))⟩
theorem c138 : chkFn Try.prog 138 e138 = true := by kernel_rfl
-- vestibule/arch.table
def e155 : IFn := ⟨[.cell 0 12 true],
  .seq (.reg false [⟨(some 0), .op (.alloc [.s [], .i .u32 0, .s [], .i .u32 0, .s [], .i .u32 0, .s [], .i .u32 0, .s [], .i .u32 0, .s [], .i .u32 0]), none⟩])
  (.seq (.reg false [⟨(some 1), .op (.build [.s [], .i .u32 0] [(0, 1, (.c (.s [120, 56, 54, 45, 54, 52]))), (1, 1, (.c (.i .u32 3221225534)))]), none⟩,
    ⟨(some 2), .op (.build [.s [], .i .u32 0] [(0, 1, (.c (.s [120, 56, 54]))), (1, 1, (.c (.i .u32 1073741827)))]), none⟩,
    ⟨(some 3), .op (.build [.s [], .i .u32 0] [(0, 1, (.c (.s [120, 51, 50]))), (1, 1, (.c (.i .u32 3221225534)))]), none⟩,
    ⟨(some 4), .op (.build [.s [], .i .u32 0] [(0, 1, (.c (.s [97, 114, 109]))), (1, 1, (.c (.i .u32 1073741864)))]), none⟩,
    ⟨(some 5), .op (.build [.s [], .i .u32 0] [(0, 1, (.c (.s [97, 114, 109, 54, 52]))), (1, 1, (.c (.i .u32 3221225655)))]), none⟩,
    ⟨(some 6), .op (.build [.s [], .i .u32 0] [(0, 1, (.c (.s [114, 105, 115, 99, 118, 54, 52]))), (1, 1, (.c (.i .u32 3221225715)))]), none⟩,
    ⟨(some 7), .op (.build [.s [], .i .u32 0, .s [], .i .u32 0, .s [], .i .u32 0, .s [], .i .u32 0, .s [], .i .u32 0, .s [], .i .u32 0] [(0, 2, (.t 1)), (2, 2, (.t 2)), (4, 2, (.t 3)), (6, 2, (.t 4)), (8, 2, (.t 5)), (10, 2, (.t 6))]), none⟩,
    ⟨none, .op (.store 12 (.t 0) (.t 7)), none⟩])
  (.ret))⟩
theorem c155 : chkFn Try.prog 155 e155 = true := by kernel_rfl
-- slices.IndexFunc[[]vestibule/arch.arch,vestibule/arch.arch]
def e156 : IFn := ⟨[.tmp 4],
  .seq (.reg false [⟨(some 4), .op (.mov (.c (.i .i64 0))), none⟩])
  (.seq (.seq (.reg false [⟨(some 6), .op (.mov (.t 0)), none⟩,
    ⟨(some 7), .op (.len false (.t 6)), none⟩,
    ⟨(some 8), .op (.mov (.c (.i .i64 0))), none⟩])
  (.blk 0 (.loop (.seq (.reg false [⟨(some 9), .op (.bin .lss (.t 8) (.t 7)), none⟩])
  (.seq (.cond (.t 9) (.skip) (.exit 0))
  (.seq (.blk 1 (.seq (.reg false [⟨(some 10), .op (.mov (.t 8)), none⟩,
    ⟨(some 5), .op (.mov (.t 10)), none⟩])
  (.seq (.reg false [⟨(some 11), .op (.mov (.t 1)), none⟩,
    ⟨(some 12), .op (.mov (.t 0)), none⟩,
    ⟨(some 13), .op (.mov (.t 5)), none⟩,
    ⟨(some 14), .op (.iAddrS 2 (.t 12) (.t 13)), none⟩,
    ⟨(some 15), .op (.loadN 2 (.t 14)), none⟩,
    ⟨(some 16), .callV (.t 11) [(.t 15)], none⟩])
  (.cond (.t 16) (.seq (.reg false [⟨(some 17), .op (.mov (.t 5)), none⟩,
    ⟨(some 4), .op (.mov (.t 17)), none⟩])
  (.ret)) (.skip)))))
  (.reg false [⟨(some 18), .op (.bin .add (.t 8) (.c (.i .i64 1))), none⟩,
    ⟨(some 8), .op (.mov (.t 18)), none⟩])))))))
  (.seq (.reg false [⟨(some 4), .op (.mov (.c (.i .i64 (-1)))), none⟩])
  (.ret)))⟩
theorem c156 : chkFn Try.prog 156 e156 = true := by kernel_rfl
-- slices.IndexFunc[[]int,int]
def e157 : IFn := ⟨[.tmp 4],
  .seq (.reg false [⟨(some 4), .op (.mov (.c (.i .i64 0))), none⟩])
  (.seq (.seq (.reg false [⟨(some 6), .op (.mov (.t 0)), none⟩,
    ⟨(some 7), .op (.len false (.t 6)), none⟩,
    ⟨(some 8), .op (.mov (.c (.i .i64 0))), none⟩])
  (.blk 0 (.loop (.seq (.reg false [⟨(some 9), .op (.bin .lss (.t 8) (.t 7)), none⟩])
  (.seq (.cond (.t 9) (.skip) (.exit 0))
  (.seq (.blk 1 (.seq (.reg false [⟨(some 10), .op (.mov (.t 8)), none⟩,
    ⟨(some 5), .op (.mov (.t 10)), none⟩])
  (.seq (.reg false [⟨(some 11), .op (.mov (.t 1)), none⟩,
    ⟨(some 12), .op (.mov (.t 0)), none⟩,
    ⟨(some 13), .op (.mov (.t 5)), none⟩,
    ⟨(some 14), .op (.iAddrS 1 (.t 12) (.t 13)), none⟩,
    ⟨(some 15), .op (.load1 (.t 14)), none⟩,
    ⟨(some 16), .callV (.t 11) [(.t 15)], none⟩])
  (.cond (.t 16) (.seq (.reg false [⟨(some 17), .op (.mov (.t 5)), none⟩,
    ⟨(some 4), .op (.mov (.t 17)), none⟩])
  (.ret)) (.skip)))))
  (.reg false [⟨(some 18), .op (.bin .add (.t 8) (.c (.i .i64 1))), none⟩,
    ⟨(some 8), .op (.mov (.t 18)), none⟩])))))))
  (.seq (.reg false [⟨(some 4), .op (.mov (.c (.i .i64 (-1)))), none⟩])
  (.ret)))⟩
theorem c157 : chkFn Try.prog 157 e157 = true := by kernel_rfl
-- cmp.Less[int]
def e158 : IFn := ⟨[.tmp 4],
  .seq (.reg false [⟨(some 4), .op (.mov (.c (.b false))), none⟩])
  (.seq (.reg false [⟨(some 5), .op (.mov (.t 0)), none⟩,
    ⟨(some 6), .callF 175 [(.t 5)], none⟩,
    ⟨(some 7), .op (.mov (.t 6)), none⟩,
    ⟨(some 8), .op (.mov (.t 1)), (some (7, true))⟩,
    ⟨(some 9), .callF 175 [(.t 8)], (some (7, true))⟩,
    ⟨(some 10), .op (.un .not (.t 9)), (some (7, true))⟩,
    ⟨(some 11), .op (.pick (.t 7) (.t 10) (.c (.b false))), none⟩,
    ⟨(some 12), .op (.mov (.t 11)), none⟩,
    ⟨(some 13), .op (.mov (.t 0)), (some (12, false))⟩,
    ⟨(some 14), .op (.mov (.t 1)), (some (12, false))⟩,
    ⟨(some 15), .op (.bin .lss (.t 13) (.t 14)), (some (12, false))⟩,
    ⟨(some 16), .op (.pick (.t 12) (.c (.b true)) (.t 15)), none⟩,
    ⟨(some 4), .op (.mov (.t 16)), none⟩])
  (.ret))⟩
theorem c158 : chkFn Try.prog 158 e158 = true := by kernel_rfl
-- slices.isNaN[int]
def e159 : IFn := ⟨[.tmp 2],
  .seq (.reg false [⟨(some 2), .op (.mov (.c (.b false))), none⟩])
  (.seq (.reg false [⟨(some 3), .op (.mov (.t 0)), none⟩,
    ⟨(some 4), .op (.mov (.t 0)), none⟩,
    ⟨(some 5), .op (.bin .neq (.t 3) (.t 4)), none⟩,
    ⟨(some 2), .op (.mov (.t 5)), none⟩])
  (.ret))⟩
theorem c159 : chkFn Try.prog 159 e159 = true := by kernel_rfl
-- slices.rotateRight[int]
def e161 : IFn := ⟨[],
  .reg false [⟨(some 4), .op (.mov (.t 0)), none⟩,
    ⟨(some 5), .op (.mov (.t 0)), none⟩,
    ⟨(some 6), .op (.len false (.t 5)), none⟩,
    ⟨(some 7), .op (.mov (.t 1)), none⟩,
    ⟨(some 8), .op (.bin .sub (.t 6) (.t 7)), none⟩,
    ⟨(some 9), .callF 176 [(.t 4), (.t 8)], none⟩]⟩
theorem c161 : chkFn Try.prog 161 e161 = true := by kernel_rfl
-- slices.IndexFunc[[]uint32,uint32]
def e162 : IFn := ⟨[.tmp 4],
  .seq (.reg false [⟨(some 4), .op (.mov (.c (.i .i64 0))), none⟩])
  (.seq (.seq (.reg false [⟨(some 6), .op (.mov (.t 0)), none⟩,
    ⟨(some 7), .op (.len false (.t 6)), none⟩,
    ⟨(some 8), .op (.mov (.c (.i .i64 0))), none⟩])
  (.blk 0 (.loop (.seq (.reg false [⟨(some 9), .op (.bin .lss (.t 8) (.t 7)), none⟩])
  (.seq (.cond (.t 9) (.skip) (.exit 0))
  (.seq (.blk 1 (.seq (.reg false [⟨(some 10), .op (.mov (.t 8)), none⟩,
    ⟨(some 5), .op (.mov (.t 10)), none⟩])
  (.seq (.reg false [⟨(some 11), .op (.mov (.t 1)), none⟩,
    ⟨(some 12), .op (.mov (.t 0)), none⟩,
    ⟨(some 13), .op (.mov (.t 5)), none⟩,
    ⟨(some 14), .op (.iAddrS 1 (.t 12) (.t 13)), none⟩,
    ⟨(some 15), .op (.load1 (.t 14)), none⟩,
    ⟨(some 16), .callV (.t 11) [(.t 15)], none⟩])
  (.cond (.t 16) (.seq (.reg false [⟨(some 17), .op (.mov (.t 5)), none⟩,
    ⟨(some 4), .op (.mov (.t 17)), none⟩])
  (.ret)) (.skip)))))
  (.reg false [⟨(some 18), .op (.bin .add (.t 8) (.c (.i .i64 1))), none⟩,
    ⟨(some 8), .op (.mov (.t 18)), none⟩])))))))
  (.seq (.reg false [⟨(some 4), .op (.mov (.c (.i .i64 (-1)))), none⟩])
  (.ret)))⟩
theorem c162 : chkFn Try.prog 162 e162 = true := by kernel_rfl
-- cmp.Less[uint32]
def e163 : IFn := ⟨[.tmp 4],
  .seq (.reg false [⟨(some 4), .op (.mov (.c (.b false))), none⟩])
  (.seq (.reg false [⟨(some 5), .op (.mov (.t 0)), none⟩,
    ⟨(some 6), .callF 177 [(.t 5)], none⟩,
    ⟨(some 7), .op (.mov (.t 6)), none⟩,
    ⟨(some 8), .op (.mov (.t 1)), (some (7, true))⟩,
    ⟨(some 9), .callF 177 [(.t 8)], (some (7, true))⟩,
    ⟨(some 10), .op (.un .not (.t 9)), (some (7, true))⟩,
    ⟨(some 11), .op (.pick (.t 7) (.t 10) (.c (.b false))), none⟩,
    ⟨(some 12), .op (.mov (.t 11)), none⟩,
    ⟨(some 13), .op (.mov (.t 0)), (some (12, false))⟩,
    ⟨(some 14), .op (.mov (.t 1)), (some (12, false))⟩,
    ⟨(some 15), .op (.bin .lss (.t 13) (.t 14)), (some (12, false))⟩,
    ⟨(some 16), .op (.pick (.t 12) (.c (.b true)) (.t 15)), none⟩,
    ⟨(some 4), .op (.mov (.t 16)), none⟩])
  (.ret))⟩
theorem c163 : chkFn Try.prog 163 e163 = true := by kernel_rfl
-- slices.isNaN[uint32]
def e164 : IFn := ⟨[.tmp 2],
  .seq (.reg false [⟨(some 2), .op (.mov (.c (.b false))), none⟩])
  (.seq (.reg false [⟨(some 3), .op (.mov (.t 0)), none⟩,
    ⟨(some 4), .op (.mov (.t 0)), none⟩,
    ⟨(some 5), .op (.bin .neq (.t 3) (.t 4)), none⟩,
    ⟨(some 2), .op (.mov (.t 5)), none⟩])
  (.ret))⟩
theorem c164 : chkFn Try.prog 164 e164 = true := by kernel_rfl
-- slices.rotateRight[uint32]
def e166 : IFn := ⟨[],
  .reg false [⟨(some 4), .op (.mov (.t 0)), none⟩,
    ⟨(some 5), .op (.mov (.t 0)), none⟩,
    ⟨(some 6), .op (.len false (.t 5)), none⟩,
    ⟨(some 7), .op (.mov (.t 1)), none⟩,
    ⟨(some 8), .op (.bin .sub (.t 6) (.t 7)), none⟩,
    ⟨(some 9), .callF 178 [(.t 4), (.t 8)], none⟩]⟩
theorem c166 : chkFn Try.prog 166 e166 = true := by kernel_rfl
-- cmp.isNaN[int]
def e175 : IFn := ⟨[.tmp 2],
  .seq (.reg false [⟨(some 2), .op (.mov (.c (.b false))), none⟩])
  (.seq (.reg false [⟨(some 3), .op (.mov (.t 0)), none⟩,
    ⟨(some 4), .op (.mov (.t 0)), none⟩,
    ⟨(some 5), .op (.bin .neq (.t 3) (.t 4)), none⟩,
    ⟨(some 2), .op (.mov (.t 5)), none⟩])
  (.ret))⟩
theorem c175 : chkFn Try.prog 175 e175 = true := by kernel_rfl
-- slices.rotateLeft[int]
def e176 : IFn := ⟨[],
  .seq (.reg false [⟨(some 4), .op (.mov (.t 0)), none⟩,
    ⟨(some 5), .op (.mov (.t 1)), none⟩,
    ⟨(some 6), .op (.slcS 1 (.t 4) none (some (.t 5)) none), none⟩,
    ⟨(some 7), .callF 180 [(.t 6)], none⟩])
  (.seq (.reg false [⟨(some 8), .op (.mov (.t 0)), none⟩,
    ⟨(some 9), .op (.mov (.t 1)), none⟩,
    ⟨(some 10), .op (.slcS 1 (.t 8) (some (.t 9)) none none), none⟩,
    ⟨(some 11), .callF 180 [(.t 10)], none⟩])
  (.reg false [⟨(some 12), .op (.mov (.t 0)), none⟩,
    ⟨(some 13), .callF 180 [(.t 12)], none⟩]))⟩
theorem c176 : chkFn Try.prog 176 e176 = true := by kernel_rfl
-- cmp.isNaN[uint32]
def e177 : IFn := ⟨[.tmp 2],
  .seq (.reg false [⟨(some 2), .op (.mov (.c (.b false))), none⟩])
  (.seq (.reg false [⟨(some 3), .op (.mov (.t 0)), none⟩,
    ⟨(some 4), .op (.mov (.t 0)), none⟩,
    ⟨(some 5), .op (.bin .neq (.t 3) (.t 4)), none⟩,
    ⟨(some 2), .op (.mov (.t 5)), none⟩])
  (.ret))⟩
theorem c177 : chkFn Try.prog 177 e177 = true := by kernel_rfl
-- slices.rotateLeft[uint32]
def e178 : IFn := ⟨[],
  .seq (.reg false [⟨(some 4), .op (.mov (.t 0)), none⟩,
    ⟨(some 5), .op (.mov (.t 1)), none⟩,
    ⟨(some 6), .op (.slcS 1 (.t 4) none (some (.t 5)) none), none⟩,
    ⟨(some 7), .callF 181 [(.t 6)], none⟩])
  (.seq (.reg false [⟨(some 8), .op (.mov (.t 0)), none⟩,
    ⟨(some 9), .op (.mov (.t 1)), none⟩,
    ⟨(some 10), .op (.slcS 1 (.t 8) (some (.t 9)) none none), none⟩,
    ⟨(some 11), .callF 181 [(.t 10)], none⟩])
  (.reg false [⟨(some 12), .op (.mov (.t 0)), none⟩,
    ⟨(some 13), .callF 181 [(.t 12)], none⟩]))⟩
theorem c178 : chkFn Try.prog 178 e178 = true := by kernel_rfl
-- slices.Reverse[[]int,int]
def e180 : IFn := ⟨[],
  .seq (.reg false [⟨(some 4), .op (.mov (.t 0)), none⟩,
    ⟨(some 5), .op (.len false (.t 4)), none⟩,
    ⟨(some 6), .op (.bin .sub (.t 5) (.c (.i .i64 1))), none⟩,
    ⟨(some 2), .op (.mov (.c (.i .i64 0))), none⟩,
    ⟨(some 3), .op (.mov (.t 6)), none⟩])
  (.blk 0 (.loop (.seq (.seq (.reg false [⟨(some 7), .op (.mov (.t 2)), none⟩,
    ⟨(some 8), .op (.mov (.t 3)), none⟩,
    ⟨(some 9), .op (.bin .lss (.t 7) (.t 8)), none⟩])
  (.cond (.t 9) (.skip) (.exit 0)))
  (.seq (.blk 1 (.reg true [⟨(some 14), .op (.mov (.t 0)), none⟩,
    ⟨(some 15), .op (.mov (.t 2)), none⟩,
    ⟨(some 16), .op (.mov (.t 0)), none⟩,
    ⟨(some 17), .op (.mov (.t 3)), none⟩,
    ⟨(some 18), .op (.mov (.t 0)), none⟩,
    ⟨(some 19), .op (.mov (.t 3)), none⟩,
    ⟨(some 20), .op (.iAddrS 1 (.t 18) (.t 19)), none⟩,
    ⟨(some 21), .op (.load1 (.t 20)), none⟩,
    ⟨(some 22), .op (.mov (.t 0)), none⟩,
    ⟨(some 23), .op (.mov (.t 2)), none⟩,
    ⟨(some 24), .op (.iAddrS 1 (.t 22) (.t 23)), none⟩,
    ⟨(some 25), .op (.load1 (.t 24)), none⟩,
    ⟨(some 26), .op (.iAddrS 1 (.t 14) (.t 15)), none⟩,
    ⟨none, .op (.store 1 (.t 26) (.t 21)), none⟩,
    ⟨(some 27), .op (.iAddrS 1 (.t 16) (.t 17)), none⟩,
    ⟨none, .op (.store 1 (.t 27) (.t 25)), none⟩]))
  (.reg false [⟨(some 10), .op (.mov (.t 2)), none⟩,
    ⟨(some 11), .op (.bin .add (.t 10) (.c (.i .i64 1))), none⟩,
    ⟨(some 12), .op (.mov (.t 3)), none⟩,
    ⟨(some 13), .op (.bin .sub (.t 12) (.c (.i .i64 1))), none⟩,
    ⟨(some 2), .op (.mov (.t 11)), none⟩,
    ⟨(some 3), .op (.mov (.t 13)), none⟩])))))⟩
theorem c180 : chkFn Try.prog 180 e180 = true := by kernel_rfl
-- slices.Reverse[[]uint32,uint32]
def e181 : IFn := ⟨[],
  .seq (.reg false [⟨(some 4), .op (.mov (.t 0)), none⟩,
    ⟨(some 5), .op (.len false (.t 4)), none⟩,
    ⟨(some 6), .op (.bin .sub (.t 5) (.c (.i .i64 1))), none⟩,
    ⟨(some 2), .op (.mov (.c (.i .i64 0))), none⟩,
    ⟨(some 3), .op (.mov (.t 6)), none⟩])
  (.blk 0 (.loop (.seq (.seq (.reg false [⟨(some 7), .op (.mov (.t 2)), none⟩,
    ⟨(some 8), .op (.mov (.t 3)), none⟩,
    ⟨(some 9), .op (.bin .lss (.t 7) (.t 8)), none⟩])
  (.cond (.t 9) (.skip) (.exit 0)))
  (.seq (.blk 1 (.reg true [⟨(some 14), .op (.mov (.t 0)), none⟩,
    ⟨(some 15), .op (.mov (.t 2)), none⟩,
    ⟨(some 16), .op (.mov (.t 0)), none⟩,
    ⟨(some 17), .op (.mov (.t 3)), none⟩,
    ⟨(some 18), .op (.mov (.t 0)), none⟩,
    ⟨(some 19), .op (.mov (.t 3)), none⟩,
    ⟨(some 20), .op (.iAddrS 1 (.t 18) (.t 19)), none⟩,
    ⟨(some 21), .op (.load1 (.t 20)), none⟩,
    ⟨(some 22), .op (.mov (.t 0)), none⟩,
    ⟨(some 23), .op (.mov (.t 2)), none⟩,
    ⟨(some 24), .op (.iAddrS 1 (.t 22) (.t 23)), none⟩,
    ⟨(some 25), .op (.load1 (.t 24)), none⟩,
    ⟨(some 26), .op (.iAddrS 1 (.t 14) (.t 15)), none⟩,
    ⟨none, .op (.store 1 (.t 26) (.t 21)), none⟩,
    ⟨(some 27), .op (.iAddrS 1 (.t 16) (.t 17)), none⟩,
    ⟨none, .op (.store 1 (.t 27) (.t 25)), none⟩]))
  (.reg false [⟨(some 10), .op (.mov (.t 2)), none⟩,
    ⟨(some 11), .op (.bin .add (.t 10) (.c (.i .i64 1))), none⟩,
    ⟨(some 12), .op (.mov (.t 3)), none⟩,
    ⟨(some 13), .op (.bin .sub (.t 12) (.c (.i .i64 1))), none⟩,
    ⟨(some 2), .op (.mov (.t 11)), none⟩,
    ⟨(some 3), .op (.mov (.t 13)), none⟩])))))⟩
theorem c181 : chkFn Try.prog 181 e181 = true := by kernel_rfl
def env : Tr IFn := (.node none (.node none (.node none (.node none (.node (some e15) (.node none (.node none (.node (some e127) .leaf .leaf) .leaf) (.node (some e95) (.node (some e159) .leaf .leaf) .leaf)) (.node none .leaf (.node none (.node (some e175) .leaf .leaf) .leaf))) (.node none (.node (some e39) (.node none (.node (some e135) .leaf .leaf) .leaf) .leaf) (.node none .leaf (.node (some e119) .leaf .leaf)))) (.node none (.node none (.node (some e35) (.node (some e67) (.node (some e131) .leaf .leaf) .leaf) (.node (some e99) (.node (some e163) .leaf .leaf) .leaf)) (.node (some e51) .leaf (.node (some e115) .leaf .leaf))) (.node none .leaf (.node none (.node (some e91) (.node (some e155) .leaf .leaf) .leaf) .leaf)))) (.node none (.node none (.node none (.node (some e33) (.node (some e65) (.node (some e129) .leaf .leaf) .leaf) (.node (some e97) (.node (some e161) .leaf .leaf) .leaf)) (.node none .leaf (.node none (.node (some e177) .leaf .leaf) .leaf))) (.node none (.node none (.node (some e73) (.node (some e137) .leaf .leaf) .leaf) (.node (some e105) .leaf .leaf)) (.node none .leaf (.node (some e121) .leaf .leaf)))) (.node none (.node none (.node (some e37) (.node (some e69) (.node (some e133) .leaf .leaf) .leaf) .leaf) (.node none .leaf (.node (some e117) (.node (some e181) .leaf .leaf) .leaf))) (.node none (.node none (.node (some e77) .leaf .leaf) .leaf) (.node none (.node (some e93) (.node (some e157) .leaf .leaf) .leaf) .leaf))))) (.node none (.node none (.node none (.node (some e16) (.node none (.node none (.node (some e128) .leaf .leaf) .leaf) (.node (some e96) .leaf .leaf)) (.node none .leaf (.node none (.node (some e176) .leaf .leaf) .leaf))) (.node none (.node none (.node none (.node (some e136) .leaf .leaf) .leaf) .leaf) (.node none .leaf (.node (some e120) .leaf .leaf)))) (.node none (.node none (.node (some e36) (.node (some e68) (.node (some e132) .leaf .leaf) .leaf) (.node (some e100) (.node (some e164) .leaf .leaf) .leaf)) (.node (some e52) (.node (some e84) .leaf .leaf) (.node (some e116) (.node (some e180) .leaf .leaf) .leaf))) (.node none .leaf (.node none (.node (some e92) (.node (some e156) .leaf .leaf) .leaf) .leaf)))) (.node none (.node none (.node none (.node (some e34) (.node (some e66) (.node (some e130) .leaf .leaf) .leaf) (.node (some e98) (.node (some e162) .leaf .leaf) .leaf)) (.node (some e50) .leaf (.node none (.node (some e178) .leaf .leaf) .leaf))) (.node none (.node none (.node none (.node (some e138) .leaf .leaf) .leaf) .leaf) .leaf)) (.node none (.node none (.node (some e38) (.node none (.node (some e134) .leaf .leaf) .leaf) (.node none (.node (some e166) .leaf .leaf) .leaf)) (.node none .leaf (.node (some e118) .leaf .leaf))) (.node none .leaf (.node none (.node (some e94) (.node (some e158) .leaf .leaf) .leaf) .leaf))))))
theorem envOk : EnvOk Try.prog env := OkT.envOk (.no 1 0 (.no 2 1 (.no 4 3 (.no 8 7 (.fn 16 15 c15 (.no 32 31 (.no 64 63 (.fn 128 127 c127 (.leaf _ _) (.leaf _ _)) (.leaf _ _)) (.fn 64 95 c95 (.fn 128 159 c159 (.leaf _ _) (.leaf _ _)) (.leaf _ _))) (.no 32 47 (.leaf _ _) (.no 64 111 (.fn 128 175 c175 (.leaf _ _) (.leaf _ _)) (.leaf _ _)))) (.no 16 23 (.fn 32 39 c39 (.no 64 71 (.fn 128 135 c135 (.leaf _ _) (.leaf _ _)) (.leaf _ _)) (.leaf _ _)) (.no 32 55 (.leaf _ _) (.fn 64 119 c119 (.leaf _ _) (.leaf _ _))))) (.no 8 11 (.no 16 19 (.fn 32 35 c35 (.fn 64 67 c67 (.fn 128 131 c131 (.leaf _ _) (.leaf _ _)) (.leaf _ _)) (.fn 64 99 c99 (.fn 128 163 c163 (.leaf _ _) (.leaf _ _)) (.leaf _ _))) (.fn 32 51 c51 (.leaf _ _) (.fn 64 115 c115 (.leaf _ _) (.leaf _ _)))) (.no 16 27 (.leaf _ _) (.no 32 59 (.fn 64 91 c91 (.fn 128 155 c155 (.leaf _ _) (.leaf _ _)) (.leaf _ _)) (.leaf _ _))))) (.no 4 5 (.no 8 9 (.no 16 17 (.fn 32 33 c33 (.fn 64 65 c65 (.fn 128 129 c129 (.leaf _ _) (.leaf _ _)) (.leaf _ _)) (.fn 64 97 c97 (.fn 128 161 c161 (.leaf _ _) (.leaf _ _)) (.leaf _ _))) (.no 32 49 (.leaf _ _) (.no 64 113 (.fn 128 177 c177 (.leaf _ _) (.leaf _ _)) (.leaf _ _)))) (.no 16 25 (.no 32 41 (.fn 64 73 c73 (.fn 128 137 c137 (.leaf _ _) (.leaf _ _)) (.leaf _ _)) (.fn 64 105 c105 (.leaf _ _) (.leaf _ _))) (.no 32 57 (.leaf _ _) (.fn 64 121 c121 (.leaf _ _) (.leaf _ _))))) (.no 8 13 (.no 16 21 (.fn 32 37 c37 (.fn 64 69 c69 (.fn 128 133 c133 (.leaf _ _) (.leaf _ _)) (.leaf _ _)) (.leaf _ _)) (.no 32 53 (.leaf _ _) (.fn 64 117 c117 (.fn 128 181 c181 (.leaf _ _) (.leaf _ _)) (.leaf _ _)))) (.no 16 29 (.no 32 45 (.fn 64 77 c77 (.leaf _ _) (.leaf _ _)) (.leaf _ _)) (.no 32 61 (.fn 64 93 c93 (.fn 128 157 c157 (.leaf _ _) (.leaf _ _)) (.leaf _ _)) (.leaf _ _)))))) (.no 2 2 (.no 4 4 (.no 8 8 (.fn 16 16 c16 (.no 32 32 (.no 64 64 (.fn 128 128 c128 (.leaf _ _) (.leaf _ _)) (.leaf _ _)) (.fn 64 96 c96 (.leaf _ _) (.leaf _ _))) (.no 32 48 (.leaf _ _) (.no 64 112 (.fn 128 176 c176 (.leaf _ _) (.leaf _ _)) (.leaf _ _)))) (.no 16 24 (.no 32 40 (.no 64 72 (.fn 128 136 c136 (.leaf _ _) (.leaf _ _)) (.leaf _ _)) (.leaf _ _)) (.no 32 56 (.leaf _ _) (.fn 64 120 c120 (.leaf _ _) (.leaf _ _))))) (.no 8 12 (.no 16 20 (.fn 32 36 c36 (.fn 64 68 c68 (.fn 128 132 c132 (.leaf _ _) (.leaf _ _)) (.leaf _ _)) (.fn 64 100 c100 (.fn 128 164 c164 (.leaf _ _) (.leaf _ _)) (.leaf _ _))) (.fn 32 52 c52 (.fn 64 84 c84 (.leaf _ _) (.leaf _ _)) (.fn 64 116 c116 (.fn 128 180 c180 (.leaf _ _) (.leaf _ _)) (.leaf _ _)))) (.no 16 28 (.leaf _ _) (.no 32 60 (.fn 64 92 c92 (.fn 128 156 c156 (.leaf _ _) (.leaf _ _)) (.leaf _ _)) (.leaf _ _))))) (.no 4 6 (.no 8 10 (.no 16 18 (.fn 32 34 c34 (.fn 64 66 c66 (.fn 128 130 c130 (.leaf _ _) (.leaf _ _)) (.leaf _ _)) (.fn 64 98 c98 (.fn 128 162 c162 (.leaf _ _) (.leaf _ _)) (.leaf _ _))) (.fn 32 50 c50 (.leaf _ _) (.no 64 114 (.fn 128 178 c178 (.leaf _ _) (.leaf _ _)) (.leaf _ _)))) (.no 16 26 (.no 32 42 (.no 64 74 (.fn 128 138 c138 (.leaf _ _) (.leaf _ _)) (.leaf _ _)) (.leaf _ _)) (.leaf _ _))) (.no 8 14 (.no 16 22 (.fn 32 38 c38 (.no 64 70 (.fn 128 134 c134 (.leaf _ _) (.leaf _ _)) (.leaf _ _)) (.no 64 102 (.fn 128 166 c166 (.leaf _ _) (.leaf _ _)) (.leaf _ _))) (.no 32 54 (.leaf _ _) (.fn 64 118 c118 (.leaf _ _) (.leaf _ _)))) (.no 16 30 (.leaf _ _) (.no 32 62 (.fn 64 94 c94 (.fn 128 158 c158 (.leaf _ _) (.leaf _ _)) (.leaf _ _)) (.leaf _ _)))))))
end Go.Proofs.Ytdmjpfekglajoaa.Env
namespace Go.Proofs.Ytdmjpfekglajoaa.Env
open Go.Kc
theorem awakeRun (n : Nat) (hn : n = 1000000) : callE env Hook.none (fv env Hook.none n) 33 [] H0 (fun v _ => yes v) = True := by
  subst hn
  kernel_rfl
end Go.Proofs.Ytdmjpfekglajoaa.Env
