/- The code that a run reaches, as the abstract machine's; it is the program's. No condition. -/
import Derived.Test.YtjllccjpflmjfaaGreatDoorVK3
import Derived.Test.YtjllccjpflmjfaaGreatDoorProg
import Derived.KernelRfl
set_option maxRecDepth 1000000
namespace Go.Proofs.YtjllccjpflmjfaaGreatDoor.EnvS
open Go.Kc
def e7:IFn:=irJ 7 []
def e10:IFn:=irJ 10 []
def e13:IFn:=irJ 13 []
def e14:IFn:=irJ 14 []
def e17:IFn:=irJ 17 []
def e20:IFn:=irJ 20 []
def e21:IFn:=irJ 21 []
def e22:IFn:=irJ 22 []
def e23:IFn:=irJ 23 []
def e24:IFn:=irJ 24 []
def e34:IFn:=irJ 34 []
def e35:IFn:=irJ 35 []
def e38:IFn:=irJ 38 []
def e39:IFn:=irJ 39 []
def e40:IFn:=irJ 40 []
def e45:IFn:=irJ 45 []
def e46:IFn:=irJ 46 []
def e47:IFn:=irJ 47 []
def e49:IFn:=irJ 49 []
def e54:IFn:=irJ 54 []
def e56:IFn:=⟨[.tmp 2],.seq (.r [.m 2 (.c (.b false))]) (.seq (.reg true [.m 4 (.t 0),.m 5 (.t 0),.m 6 (.t 0),.q 7 (.nilChk (.t 6)),.q 8 (.fAddr 15 (.t 7)),.q 9 (.loadN 3 (.t 8)),.m 10 (.t 0),.q 11 (.nilChk (.t 10)),.q 12 (.fAddr 18 (.t 11)),.q 13 (.load1 (.t 12)),⟨(some 14),.callW 84 [.t 9,.t 13],none⟩,.m 3 (.t 14),.q 15 (.ext (.t 3) 0),.q 16 (.ext (.t 3) 1),.q 17 (.nilChk (.t 4)),.q 18 (.fAddr 20 (.t 17)),.u (.store 1 (.t 18) (.t 15)),.q 19 (.nilChk (.t 5)),.q 20 (.fAddr 0 (.t 19)),.q 21 (.fAddr 14 (.t 20)),.u (.store 1 (.t 21) (.t 16))]) (.seq (.r [.m 22 (.t 0),.q 23 (.nilChk (.t 22)),.q 24 (.fAddr 0 (.t 23)),.q 25 (.fAddr 14 (.t 24)),.q 26 (.load1 (.t 25)),.q 27 (.len false (.t 26)),.q 28 (.bin .eql (.t 27) (.k 0)),.m 2 (.t 28)]) (.ret)))⟩
def e57:IFn:=irJ 57 []
def e58:IFn:=⟨[.tmp 2],.seq (.r [.m 2 (.c (.b false))]) (.seq (.reg true [.m 6 (.t 0),.q 7 (.nilChk (.t 6)),.q 8 (.fAddr 0 (.t 7)),.q 9 (.fAddr 0 (.t 8)),.q 10 (.loadN 13 (.t 9)),.m 11 (.t 0),.q 12 (.nilChk (.t 11)),.q 13 (.fAddr 19 (.t 12)),.q 14 (.load1 (.t 13)),⟨(some 15),.callW 42 [.t 10,.t 14],none⟩,.m 5 (.t 15),.q 16 (.ext (.t 5) 0),.q 17 (.ext (.t 5) 1),.m 3 (.t 16),.m 4 (.t 17)]) (.seq (.seq (.r [.m 18 (.t 4),.q 19 (.bin .neq (.t 18) (.k 0))]) (.cond (.t 19) (.reg true [.m 20 (.t 0),.m 21 (.t 0),.q 22 (.nilChk (.t 21)),.q 23 (.fAddr 0 (.t 22)),.q 24 (.fAddr 14 (.t 23)),.q 25 (.load1 (.t 24)),.m 26 (.t 0),.q 27 (.nilChk (.t 26)),.q 28 (.fAddr 15 (.t 27)),.q 29 (.fAddr 0 (.t 28)),.q 30 (.load1 (.t 29)),.m 31 (.t 4),.q 32 (.build [.s [],.i .i64 0,.i .i64 0,.s []] [(0,1,(.t 30)),(2,1,(.t 31))]),.q 33 (.buildS 1 [.s [],.i .i64 0,.i .i64 0,.s []] [(0,4,(.t 32))]),.q 34 (.app 4 48 true (.t 25) (.t 33)),.q 35 (.nilChk (.t 20)),.q 36 (.fAddr 0 (.t 35)),.q 37 (.fAddr 14 (.t 36)),.u (.store 1 (.t 37) (.t 34))]) (.skip))) (.seq (.r [.m 38 (.t 0),.m 39 (.t 3),.q 40 (.nilChk (.t 38)),.q 41 (.fAddr 0 (.t 40)),.q 42 (.fAddr 13 (.t 41)),.u (.store 1 (.t 42) (.t 39))]) (.seq (.r [.m 43 (.t 4),.q 44 (.bin .eql (.t 43) (.k 0)),.m 2 (.t 44)]) (.ret)))))⟩
def e59:IFn:=irJ 59 []
def e60:IFn:=irJ 60 []
def e71:IFn:=irJ 71 []
def e72:IFn:=irJ 72 []
def e73:IFn:=irJ 73 []
def e74:IFn:=irJ 74 []
def e75:IFn:=irJ 75 []
def e76:IFn:=irJ 76 []
def e77:IFn:=irJ 77 []
def e78:IFn:=irJ 78 []
def e79:IFn:=irJ 79 []
def e80:IFn:=irJ 80 []
def e84:IFn:=irJ 84 []
def e85:IFn:=irJ 85 []
def e86:IFn:=irJ 86 []
def e87:IFn:=irJ 87 []
def e88:IFn:=irJ 88 []
def e106:IFn:=irJ 106 []
def e107:IFn:=irJ 107 []
def e108:IFn:=irJ 108 []
def e109:IFn:=irJ 109 []
def e110:IFn:=irJ 110 []
def e112:IFn:=irJ 112 []
def e113:IFn:=irJ 113 []
def e114:IFn:=irJ 114 []
def e115:IFn:=irJ 115 []
def e116:IFn:=irJ 116 []
def e117:IFn:=irJ 117 []
def e136:IFn:=irJ 136 []
def e137:IFn:=irJ 137 []
def e138:IFn:=irJ 138 []
def e139:IFn:=irJ 139 []
def e140:IFn:=irJ 140 []
def e141:IFn:=irJ 141 []
def e142:IFn:=irJ 142 []
def e143:IFn:=irJ 143 []
def e144:IFn:=irJ 144 []
def e145:IFn:=irJ 145 []
def e146:IFn:=irJ 146 []
def sx0:ICode:=(.seq (.reg false [⟨(some 7),.op (.mov (.t 22)),none⟩]) (.reg false [⟨(some 8),.op (.mov (.t 23)),none⟩]))
def sy0:ICode:=(.blk 2 (.seq (.seq (.reg false [⟨(some 24),.op (.mov (.t 8)),none⟩,⟨(some 25),.callF 204 [(.t 24)],none⟩]) (.cond (.t 25) (.exit 2) (.skip))) (.seq (.seq (.reg false [⟨(some 26),.op (.fAddr 0 (.t 5)),none⟩,⟨(some 27),.op (.load1 (.t 26)),none⟩,⟨(some 28),.op (.bin .eql (.t 27) (.c (.i .i64 0))),none⟩]) (.cond (.t 28) (.reg false [⟨(some 29),.op (.mov (.t 7)),none⟩,⟨(some 30),.op (.fAddr 0 (.t 5)),none⟩,⟨none,.op (.store 1 (.t 30) (.t 29)),none⟩]) (.skip))) (.seq (.seq (.reg false [⟨(some 32),.op (.mov (.t 8)),none⟩,⟨(some 33),.callF 205 [(.t 32),(.c (.s [92]))],none⟩,⟨(some 31),.op (.mov (.t 33)),none⟩,⟨(some 34),.op (.ext (.t 31) 0),none⟩,⟨(some 35),.op (.ext (.t 31) 1),none⟩,⟨(some 9),.op (.mov (.t 34)),none⟩,⟨(some 10),.op (.mov (.t 35)),none⟩]) (.seq (.reg false [⟨(some 36),.op (.mov (.t 10)),none⟩]) (.cond (.t 36) (.seq (.reg false [⟨(some 37),.op (.fAddr 1 (.t 5)),none⟩,⟨(some 38),.op (.load1 (.t 37)),none⟩,⟨(some 39),.op (.mov (.t 9)),none⟩,⟨(some 40),.op (.bin .add (.t 39) (.c (.s [32]))),none⟩,⟨(some 41),.op (.bin .add (.t 38) (.t 40)),none⟩,⟨(some 42),.op (.fAddr 1 (.t 5)),none⟩,⟨none,.op (.store 1 (.t 42) (.t 41)),none⟩]) (.exit 2)) (.skip)))) (.seq (.reg false [⟨(some 43),.op (.fAddr 1 (.t 5)),none⟩,⟨(some 44),.op (.load1 (.t 43)),none⟩,⟨(some 45),.op (.mov (.t 8)),none⟩,⟨(some 46),.op (.bin .add (.t 44) (.t 45)),none⟩,⟨(some 47),.op (.fAddr 1 (.t 5)),none⟩,⟨none,.op (.store 1 (.t 47) (.t 46)),none⟩]) (.reg false [⟨(some 48),.op (.load1 (.t 6)),none⟩,⟨(some 49),.callV (.t 48) [],none⟩]))))))
def e147:IFn:=⟨[.tmp 2,.tmp 3],.seq (.r [.m 2 (.c .nils),.m 3 (.k 0)]) (.seq (.blk 0 (.seq (.r [.m 12 (.t 0),.q 13 (.len false (.t 12)),.q 14 (.bin .gtr (.t 13) (.k 65536)),.m 11 (.t 14)]) (.cond (.t 11) (.seq (.r [.m 2 (.c .nils),.m 3 (.k 3)]) (.ret)) (.seq (.r [.m 16 (.t 0),.l 17 200 [.t 16],.q 18 (.bin .gtr (.t 17) (.k 1000)),.m 15 (.t 18)]) (.cond (.t 15) (.seq (.r [.m 2 (.c .nils),.m 3 (.k 4)]) (.ret)) (.skip)))))) (.seq (.r [.q 4 (.alloc [.nils])]) (.seq (.r [.q 5 (.alloc [.i .i64 0,.s []])]) (.seq (.r [.q 19 (.mkF 201 [] [.t 5,.t 4]),.q 6 (.alloc [.nilf]),.u (.store 1 (.t 6) (.t 19))]) (.seq (.seq (.r [.m 20 (.t 0),.l 21 203 [.t 20]]) (.blk 1 (.rangeF 0 (.t 21) [22,23] sx0 sy0))) (.seq (.r [.q 50 (.load1 (.t 6)),⟨(some 51),.callV (.t 50) [],none⟩]) (.seq (.r [.q 52 (.load1 (.t 4)),.m 2 (.t 52),.m 3 (.k 0)]) (.ret))))))))⟩
def e148:IFn:=irJ 148 []
def e149:IFn:=⟨[],.seq (.r [.q 3 (.box (.t 1))]) (.seq (.seq (.r [.q 10 (.fAddr 1 (.t 3)),.q 11 (.load1 (.t 10)),.l 12 206 [.t 11],.m 9 (.t 12),.q 13 (.ext (.t 9) 0),.q 14 (.ext (.t 9) 1),.m 4 (.t 13),.m 5 (.t 14)]) (.seq (.r [.m 15 (.t 5)]) (.cond (.t 15) (.seq (.r [.m 16 (.t 0),.m 17 (.t 0),.m 18 (.t 4),.q 19 (.nilChk (.t 16)),.q 20 (.fAddr 1 (.t 19)),.u (.store 1 (.t 20) (.t 18)),.q 21 (.nilChk (.t 17)),.q 22 (.fAddr 2 (.t 21)),.u (.store 1 (.t 22) (.c (.b true)))]) (.ret)) (.skip)))) (.seq (.r [.q 24 (.fAddr 1 (.t 3)),.q 25 (.load1 (.t 24)),.l 26 207 [.t 25],.m 23 (.t 26),.q 27 (.ext (.t 23) 0),.q 28 (.ext (.t 23) 1),.q 29 (.ext (.t 23) 2),.m 6 (.t 27),.m 7 (.t 28),.m 8 (.t 29)]) (.seq (.seq (.r [.m 30 (.t 8),.q 31 (.un .not (.t 30)),.m 32 (.t 31),.g 33 (.mov (.t 0)) 32 false,.g 34 (.nilChk (.t 33)) 32 false,.g 35 (.fAddr 2 (.t 34)) 32 false,.g 36 (.load1 (.t 35)) 32 false,.g 37 (.un .not (.t 36)) 32 false,.q 38 (.pick (.t 32) (.c (.b true)) (.t 37))]) (.cond (.t 38) (.seq (.reg true [.m 39 (.t 0),.q 40 (.nilChk (.t 39)),.q 41 (.fAddr 4 (.t 40)),.q 42 (.load1 (.t 41)),.q 43 (.fAddr 0 (.t 3)),.q 44 (.load1 (.t 43)),.q 45 (.fAddr 1 (.t 3)),.q 46 (.load1 (.t 45)),.q 47 (.fAddr 1 (.t 3)),.q 48 (.load1 (.t 47)),.q 49 (.len true (.t 48)),.q 50 (.min (.t 49) (.k 60)),.q 51 (.slcStr (.t 46) none (some (.t 50))),⟨(some 52),.callVW (.t 42) [.t 44,.k 130,.t 51],none⟩]) (.ret)) (.skip))) (.reg true [.m 53 (.t 0),.m 54 (.t 0),.q 55 (.nilChk (.t 54)),.q 56 (.fAddr 3 (.t 55)),.q 57 (.load1 (.t 56)),.m 58 (.t 0),.q 59 (.nilChk (.t 58)),.q 60 (.fAddr 0 (.t 59)),.q 61 (.load1 (.t 60)),.q 62 (.fAddr 0 (.t 3)),.q 63 (.load1 (.t 62)),.m 64 (.t 0),.q 65 (.nilChk (.t 64)),.q 66 (.fAddr 1 (.t 65)),.q 67 (.load1 (.t 66)),.m 68 (.t 6),.m 69 (.t 7),.q 70 (.build [.s [],.i .i64 0,.s [],.s [],.s []] [(0,1,(.t 61)),(1,1,(.t 63)),(2,1,(.t 67)),(3,1,(.t 68)),(4,1,(.t 69))]),.q 71 (.buildS 1 [.s [],.i .i64 0,.s [],.s [],.s []] [(0,5,(.t 70))]),.q 72 (.app 5 72 true (.t 57) (.t 71)),.q 73 (.nilChk (.t 53)),.q 74 (.fAddr 3 (.t 73)),.u (.store 1 (.t 74) (.t 72))]))))⟩
def e150:IFn:=irJ 150 []
def e151:IFn:=irJ 151 []
def e152:IFn:=irJ 152 []
def e153:IFn:=irJ 153 []
def e154:IFn:=irJ 154 []
def e194:IFn:=irJ 194 []
def sx1:ICode:=(.reg false [⟨(some 5),.op (.alloc [.s [],.i .i64 0,.nils]),none⟩,⟨none,.op (.store 3 (.t 5) (.t 7)),none⟩])
def sy1:ICode:=(.blk 1 (.reg false [⟨(some 8),.op (.load1 (.t 2)),none⟩,⟨(some 9),.op (.loadN 3 (.t 5)),none⟩,⟨(some 10),.op (.buildS 1 [.s [],.i .i64 0,.nils] [(0,3,(.t 9))]),none⟩,⟨(some 11),.op (.app 3 48 true (.t 8) (.t 10)),none⟩,⟨none,.op (.store 1 (.t 2) (.t 11)),none⟩]))
def e195:IFn:=⟨[.tmp 4],.seq (.r [.q 2 (.box (.t 0)),.m 4 (.c .nils)]) (.seq (.seq (.r [.m 6 (.t 1)]) (.blk 0 (.rangeF 1 (.t 6) [7] sx1 sy1))) (.seq (.r [.q 12 (.load1 (.t 2)),.m 4 (.t 12)]) (.ret)))⟩
def e196:IFn:=irJ 196 []
def e197:IFn:=⟨[],.seq (.r [.m 10 (.c (.b true))]) (.seq (.r [.m 11 (.c (.b true))]) (.blk 0 (.loop (.blk 1 (.seq (.r [.m 21 (.t 2),.m 22 (.t 1),.q 23 (.bin .sub (.t 21) (.t 22)),.m 12 (.t 23)]) (.seq (.seq (.r [.m 24 (.t 12),.q 25 (.bin .leq (.t 24) (.k 12))]) (.cond (.t 25) (.seq (.r [.m 26 (.t 0),.m 27 (.t 1),.m 28 (.t 2),.m 29 (.t 4),.l 30 257 [.t 26,.t 27,.t 28,.t 29]]) (.ret)) (.skip))) (.seq (.seq (.r [.m 31 (.t 3),.q 32 (.bin .eql (.t 31) (.k 0))]) (.cond (.t 32) (.seq (.r [.m 33 (.t 0),.m 34 (.t 1),.m 35 (.t 2),.m 36 (.t 4),.l 37 258 [.t 33,.t 34,.t 35,.t 36]]) (.ret)) (.skip))) (.seq (.seq (.r [.m 38 (.t 10),.q 39 (.un .not (.t 38))]) (.cond (.t 39) (.seq (.r [.m 40 (.t 0),.m 41 (.t 1),.m 42 (.t 2),.m 43 (.t 4),.l 44 259 [.t 40,.t 41,.t 42,.t 43]]) (.r [.m 45 (.t 3),.q 46 (.bin .sub (.t 45) (.k 1)),.m 3 (.t 46)])) (.skip))) (.seq (.r [.m 48 (.t 0),.m 49 (.t 1),.m 50 (.t 2),.m 51 (.t 4),.l 52 260 [.t 48,.t 49,.t 50,.t 51],.m 47 (.t 52),.q 53 (.ext (.t 47) 0),.q 54 (.ext (.t 47) 1),.m 13 (.t 53),.m 14 (.t 54)]) (.seq (.seq (.r [.m 55 (.t 14),.q 56 (.bin .eql (.t 55) (.k 2))]) (.cond (.t 56) (.seq (.r [.m 57 (.t 0),.m 58 (.t 1),.m 59 (.t 2),.m 60 (.t 4),.l 61 261 [.t 57,.t 58,.t 59,.t 60]]) (.seq (.r [.m 62 (.t 2),.q 63 (.bin .sub (.t 62) (.k 1)),.m 64 (.t 13),.m 65 (.t 1),.q 66 (.bin .sub (.t 64) (.t 65)),.q 67 (.bin .sub (.t 63) (.t 66)),.m 13 (.t 67)]) (.r [.m 14 (.k 1)]))) (.skip))) (.seq (.seq (.r [.m 68 (.t 10),.m 69 (.t 68),.g 70 (.mov (.t 11)) 69 true,.q 71 (.pick (.t 69) (.t 70) (.c (.b false))),.m 72 (.t 71),.g 73 (.mov (.t 14)) 72 true,.g 74 (.bin .eql (.t 73) (.k 1)) 72 true,.q 75 (.pick (.t 72) (.t 74) (.c (.b false)))]) (.cond (.t 75) (.seq (.r [.m 76 (.t 0),.m 77 (.t 1),.m 78 (.t 2),.m 79 (.t 4),.l 80 262 [.t 76,.t 77,.t 78,.t 79]]) (.cond (.t 80) (.ret) (.skip))) (.skip))) (.seq (.seq (.reg true [.m 81 (.t 1),.q 82 (.bin .gtr (.t 81) (.k 0)),.m 83 (.t 82),.g 84 (.mov (.t 4)) 83 true,.g 85 (.mov (.t 0)) 83 true,.g 86 (.mov (.t 1)) 83 true,.g 87 (.bin .sub (.t 86) (.k 1)) 83 true,.g 88 (.iAddrS 3 (.t 85) (.t 87)) 83 true,.g 89 (.loadN 3 (.t 88)) 83 true,.g 90 (.mov (.t 0)) 83 true,.g 91 (.mov (.t 13)) 83 true,.g 92 (.iAddrS 3 (.t 90) (.t 91)) 83 true,.g 93 (.loadN 3 (.t 92)) 83 true,⟨(some 94),.callVW (.t 84) [.t 89,.t 93],(some (83,true))⟩,.g 95 (.bin .lss (.t 94) (.k 0)) 83 true,.g 96 (.un .not (.t 95)) 83 true,.q 97 (.pick (.t 83) (.t 96) (.c (.b false)))]) (.cond (.t 97) (.seq (.r [.m 98 (.t 0),.m 99 (.t 1),.m 100 (.t 2),.m 101 (.t 13),.m 102 (.t 4),.l 103 263 [.t 98,.t 99,.t 100,.t 101,.t 102],.m 15 (.t 103)]) (.seq (.r [.m 104 (.t 15),.m 1 (.t 104)]) (.exit 1))) (.skip))) (.seq (.r [.m 106 (.t 0),.m 107 (.t 1),.m 108 (.t 2),.m 109 (.t 13),.m 110 (.t 4),.l 111 264 [.t 106,.t 107,.t 108,.t 109,.t 110],.m 105 (.t 111),.q 112 (.ext (.t 105) 0),.q 113 (.ext (.t 105) 1),.m 16 (.t 112),.m 17 (.t 113)]) (.seq (.r [.m 114 (.t 17),.m 11 (.t 114)]) (.seq (.r [.m 115 (.t 16),.m 116 (.t 1),.q 117 (.bin .sub (.t 115) (.t 116)),.m 118 (.t 2),.m 119 (.t 16),.q 120 (.bin .sub (.t 118) (.t 119)),.m 18 (.t 117),.m 19 (.t 120)]) (.seq (.r [.m 121 (.t 12),.q 122 (.bin .quo (.t 121) (.k 8)),.m 20 (.t 122)]) (.seq (.r [.m 123 (.t 18),.m 124 (.t 19),.q 125 (.bin .lss (.t 123) (.t 124))]) (.cond (.t 125) (.seq (.r [.m 126 (.t 18),.m 127 (.t 20),.q 128 (.bin .geq (.t 126) (.t 127)),.m 10 (.t 128)]) (.seq (.r [.m 129 (.t 0),.m 130 (.t 1),.m 131 (.t 16),.m 132 (.t 3),.m 133 (.t 4),.l 134 197 [.t 129,.t 130,.t 131,.t 132,.t 133]]) (.r [.m 135 (.t 16),.q 136 (.bin .add (.t 135) (.k 1)),.m 1 (.t 136)]))) (.seq (.r [.m 137 (.t 19),.m 138 (.t 20),.q 139 (.bin .geq (.t 137) (.t 138)),.m 10 (.t 139)]) (.seq (.r [.m 140 (.t 0),.m 141 (.t 16),.q 142 (.bin .add (.t 141) (.k 1)),.m 143 (.t 2),.m 144 (.t 3),.m 145 (.t 4),.l 146 197 [.t 140,.t 142,.t 143,.t 144,.t 145]]) (.r [.m 147 (.t 16),.m 2 (.t 147)])))))))))))))))))))))⟩
def e198:IFn:=irJ 198 []
def e199:IFn:=irJ 199 []
def sx2:ICode:=(.skip)
def sy2:ICode:=(.blk 1 (.reg false [⟨(some 8),.op (.load1 (.t 3)),none⟩,⟨(some 9),.op (.bin .add (.t 8) (.c (.i .i64 1))),none⟩,⟨none,.op (.store 1 (.t 3) (.t 9)),none⟩]))
def e200:IFn:=⟨[.tmp 2],.seq (.r [.m 2 (.k 0)]) (.seq (.r [.q 3 (.alloc [.i .i64 0]),.u (.store 1 (.t 3) (.k 0))]) (.seq (.seq (.r [.m 4 (.t 0),.l 5 203 [.t 4]]) (.blk 0 (.rangeF 2 (.t 5) [6,7] sx2 sy2))) (.seq (.r [.q 10 (.load1 (.t 3)),.m 2 (.t 10)]) (.ret))))⟩
def e201:IFn:=irJ 201 []
def e202:IFn:=irJ 202 []
def e203:IFn:=irJ 203 []
def e204:IFn:=irJ 204 []
def e205:IFn:=irJ 205 []
def e206:IFn:=irJ 206 []
def e207:IFn:=irJ 207 []
def e208:IFn:=irJ 208 []
def e209:IFn:=irJ 209 []
def e210:IFn:=irJ 210 []
def e211:IFn:=irJ 211 []
def e227:IFn:=irJ 227 []
def e257:IFn:=⟨[],.seq (.r [.m 10 (.t 1),.q 11 (.bin .add (.t 10) (.k 1)),.m 8 (.t 11)]) (.blk 0 (.loop (.seq (.seq (.r [.m 12 (.t 8),.m 13 (.t 2),.q 14 (.bin .lss (.t 12) (.t 13))]) (.cond (.t 14) (.skip) (.exit 0))) (.seq (.blk 1 (.seq (.r [.m 17 (.t 8),.m 9 (.t 17)]) (.blk 2 (.loop (.seq (.seq (.reg true [.m 18 (.t 9),.m 19 (.t 1),.q 20 (.bin .gtr (.t 18) (.t 19)),.m 21 (.t 20),.g 22 (.mov (.t 3)) 21 true,.g 23 (.mov (.t 0)) 21 true,.g 24 (.mov (.t 9)) 21 true,.g 25 (.iAddrS 3 (.t 23) (.t 24)) 21 true,.g 26 (.loadN 3 (.t 25)) 21 true,.g 27 (.mov (.t 0)) 21 true,.g 28 (.mov (.t 9)) 21 true,.g 29 (.bin .sub (.t 28) (.k 1)) 21 true,.g 30 (.iAddrS 3 (.t 27) (.t 29)) 21 true,.g 31 (.loadN 3 (.t 30)) 21 true,⟨(some 32),.callVW (.t 22) [.t 26,.t 31],(some (21,true))⟩,.g 33 (.bin .lss (.t 32) (.k 0)) 21 true,.q 34 (.pick (.t 21) (.t 33) (.c (.b false)))]) (.cond (.t 34) (.skip) (.exit 2))) (.seq (.blk 3 (.reg true [.m 37 (.t 0),.m 38 (.t 9),.m 39 (.t 0),.m 40 (.t 9),.q 41 (.bin .sub (.t 40) (.k 1)),.m 42 (.t 0),.m 43 (.t 9),.q 44 (.bin .sub (.t 43) (.k 1)),.q 45 (.iAddrS 3 (.t 42) (.t 44)),.q 46 (.loadN 3 (.t 45)),.m 47 (.t 0),.m 48 (.t 9),.q 49 (.iAddrS 3 (.t 47) (.t 48)),.q 50 (.loadN 3 (.t 49)),.q 51 (.iAddrS 3 (.t 37) (.t 38)),.u (.store 3 (.t 51) (.t 46)),.q 52 (.iAddrS 3 (.t 39) (.t 41)),.u (.store 3 (.t 52) (.t 50))])) (.r [.m 35 (.t 9),.q 36 (.bin .sub (.t 35) (.k 1)),.m 9 (.t 36)]))))))) (.r [.m 15 (.t 8),.q 16 (.bin .add (.t 15) (.k 1)),.m 8 (.t 16)])))))⟩
def e258:IFn:=irJ 258 []
def e259:IFn:=irJ 259 []
def e260:IFn:=irJ 260 []
def e261:IFn:=irJ 261 []
def e265:IFn:=irJ 265 []
def e266:IFn:=irJ 266 []
def e267:IFn:=irJ 267 []
def e268:IFn:=irJ 268 []
def e269:IFn:=irJ 269 []
def e270:IFn:=irJ 270 []
def e271:IFn:=irJ 271 []
def e272:IFn:=irJ 272 []
def e273:IFn:=irJ 273 []
def e274:IFn:=irJ 274 []
def e275:IFn:=irJ 275 []
def e276:IFn:=irJ 276 []
def e277:IFn:=irJ 277 []
def e278:IFn:=irJ 278 []
def e279:IFn:=irJ 279 []
def e280:IFn:=irJ 280 []
def e281:IFn:=irJ 281 []
def e282:IFn:=irJ 282 []
def e284:IFn:=irJ 284 []
def e285:IFn:=irJ 285 []
def e286:IFn:=irJ 286 []
def e287:IFn:=irJ 287 []
def e288:IFn:=irJ 288 []
def e325:IFn:=irJ 325 []
def e326:IFn:=irJ 326 []
def e327:IFn:=irJ 327 []
def e328:IFn:=irJ 328 []
def e329:IFn:=irJ 329 []
def e330:IFn:=irJ 330 []
def e331:IFn:=irJ 331 []
def e332:IFn:=irJ 332 []
def e334:IFn:=irJ 334 []
def e335:IFn:=irJ 335 []
def e336:IFn:=irJ 336 []
def e337:IFn:=irJ 337 []
def e338:IFn:=irJ 338 []
def e339:IFn:=irJ 339 []
def e342:IFn:=irJ 342 []
def e343:IFn:=irJ 343 []
def e344:IFn:=irJ 344 []
def nG:ICode->ICode
 | .reg d l=>.reg d (l.map fun r=>match r.k with|.op (.load1 (.c .undef))=>⟨r.dst,.op .no,r.guard⟩|_=>r)
 | .seq a b=>.seq (nG a) (nG b)
 | .cond x a b=>.cond x (nG a) (nG b)
 | .blk i a=>.blk i (nG a)
 | .loop a=>.loop (nG a)
 | c=>c
def e377:IFn:=⟨[.tmp 4],nG (irJ 377 []).body⟩
def e378:IFn:=irJ 378 []
def e379:IFn:=irJ 379 []
def e380:IFn:=irJ 380 []
def e381:IFn:=irJ 381 []
def e382:IFn:=irJ 382 []
def e383:IFn:=irJ 383 []
def e392:IFn:=irJ 392 []
def e393:IFn:=irJ 393 []
def e394:IFn:=irJ 394 []
def e395:IFn:=irJ 395 []
def e396:IFn:=irJ 396 []
def e397:IFn:=irJ 397 []
def e398:IFn:=irJ 398 []
def e399:IFn:=irJ 399 []
def e400:IFn:=irJ 400 []
def e401:IFn:=irJ 401 []
def e406:IFn:=irJ 406 []
def e407:IFn:=irJ 407 []
def e408:IFn:=irJ 408 []
def e412:IFn:=irJ 412 []
def e413:IFn:=irJ 413 []
def e421:IFn:=irJ 421 []
def e422:IFn:=irJ 422 []
def e423:IFn:=irJ 423 []
def e425:IFn:=irJ 425 []
def e431:IFn:=irJ 431 []
def e433:IFn:=irJ 433 []
def e443:IFn:=irJ 443 []
def e444:IFn:=irJ 444 []
def e450:IFn:=irJ 450 []
def sites:List (List Nat×ICode×ICode):=[([22,23],sx0,sy0),([7],sx1,sy1),([6,7],sx2,sy2)]
instance cur:Cur:=qJI Tryz.prog (qua sites)
def env:Tr IFn:=(.o (.o (.o (.g e7 (.o (.o (.o (.o .leaf (.f e383)) .leaf) (.o (.o (.f e287) .leaf) .leaf)) (.g e47 (.g e79 (.g e143 (.f e271) (.f e399)) (.g e207 (.f e335) .leaf)) (.o (.o .leaf (.f e431)) .leaf))) (.g e23 (.g e39 (.g e71 .leaf (.g e199 (.f e327) .leaf)) (.o (.o .leaf (.f e423)) .leaf)) (.o (.g e87 (.g e151 (.f e279) (.f e407)) (.o (.f e343) .leaf)) .leaf))) (.o (.o (.g e35 (.o (.o (.f e259) .leaf) (.f e195)) (.o .leaf (.f e227))) (.o (.o (.g e147 (.f e275) .leaf) (.g e211 (.f e339) .leaf)) (.f e115))) (.o (.o (.g e75 (.g e139 (.f e267) (.f e395)) (.g e203 (.f e331) .leaf)) (.f e107)) (.g e59 .leaf (.o (.o .leaf (.f e443)) (.o (.f e379) .leaf)))))) (.o (.o (.g e17 (.o (.o (.o (.f e257) .leaf) .leaf) .leaf) (.g e49 (.o (.g e145 (.f e273) (.f e401)) (.g e209 (.f e337) .leaf)) (.g e113 (.o .leaf (.f e433)) .leaf))) (.o (.o (.g e73 (.g e137 (.f e265) (.f e393)) (.g e201 (.f e329) .leaf)) (.o (.o .leaf (.f e425)) .leaf)) (.g e57 (.o (.g e153 (.f e281) .leaf) .leaf) (.o .leaf (.o (.f e377) .leaf))))) (.g e13 (.g e21 (.o (.o (.o (.f e261) .leaf) (.g e197 (.f e325) .leaf)) (.o (.o .leaf (.f e421)) .leaf)) (.o (.g e85 (.g e149 (.f e277) .leaf) .leaf) (.f e117))) (.o (.g e45 (.g e77 (.g e141 (.f e269) (.f e397)) (.f e205)) (.f e109)) (.o (.o (.o (.f e285) (.f e413)) .leaf) (.o .leaf (.o (.f e381) .leaf))))))) (.o (.o (.o (.o (.o .leaf (.o (.o (.f e288) .leaf) .leaf)) (.o (.g e80 (.g e144 (.f e272) (.f e400)) (.g e208 (.f e336) .leaf)) (.f e112))) (.g e24 (.g e40 (.g e72 (.g e136 .leaf (.f e392)) (.g e200 (.f e328) .leaf)) .leaf) (.g e56 (.g e88 (.g e152 (.f e280) (.f e408)) (.o (.f e344) .leaf)) .leaf))) (.o (.g e20 (.o (.o (.o (.f e260) .leaf) (.f e196)) .leaf) (.o (.g e84 (.g e148 (.f e276) .leaf) .leaf) (.f e116))) (.o (.o (.g e76 (.g e140 (.f e268) (.f e396)) (.g e204 (.f e332) .leaf)) (.f e108)) (.g e60 (.o (.o (.f e284) (.f e412)) .leaf) (.o (.o .leaf (.f e444)) (.o (.f e380) .leaf)))))) (.o (.g e10 (.o (.g e34 (.o (.o (.f e258) .leaf) (.g e194 .leaf (.f e450))) .leaf) (.o (.o (.g e146 (.f e274) .leaf) (.g e210 (.f e338) .leaf)) (.f e114))) (.o (.o (.g e74 (.g e138 (.f e266) (.f e394)) (.g e202 (.f e330) .leaf)) (.f e106)) (.g e58 (.o (.g e154 (.f e282) .leaf) .leaf) (.o .leaf (.o (.f e378) .leaf))))) (.g e14 (.g e22 (.g e38 (.o .leaf (.g e198 (.f e326) .leaf)) (.o (.o .leaf (.f e422)) .leaf)) (.g e54 (.g e86 (.g e150 (.f e278) (.f e406)) (.o (.f e342) .leaf)) .leaf)) (.o (.g e46 (.g e78 (.g e142 (.f e270) (.f e398)) (.g e206 (.f e334) .leaf)) (.f e110)) (.o (.o (.o (.f e286) .leaf) .leaf) (.o .leaf (.o (.f e382) .leaf))))))))
theorem envOk:qiY Tryz.prog env:=qLD (D:=[]) Aa
theorem qLo:SitesOk Tryz.prog env (qua sites):=Go.Kc.qLo (L:=[147,195,200]) Aa Aa (by
 intro f hf i hi;simp only[List.mem_cons,List.not_mem_nil,or_false] at hf;rcases hf with rfl|rfl|rfl
 ·have e:env.get 147=some e147:=Aa
  exact Dh
 ·have e:env.get 195=some e195:=Aa
  exact Dh
 ·have e:env.get 200=some e200:=Aa
  exact Dh
)
/-- what the model answers by itself -/
noncomputable def extH:qgM:=fun f vs =>
 if f=448 then (match vs with | [.s a,.s b]=>some (.i .i64 (qnM a b))|_=>none)
 else if f=432 then (match vs with | [.s a,.i .u8 c]=>if 0<=c∧c<256 then some (.i .i64 (qsh (UInt8.ofNat c.toNat) a 0)) else none|_=>none)
 else none
theorem extOk:qfR Tryz.prog extH:=by
 intro f vs v h;unfold extH at h;split at h
 ·rename_i hf;split at h
  ·cases h;subst hf;exact qAn (qon.of Tryz.func448 Aa Aa Aa Aa) _ _
  ·cases h
 ·split at h
  ·rename_i hf;split at h
   ·split at h
    ·rename_i a c hc;cases h;subst hf
     have e:((UInt8.ofNat c.toNat).toNat:Int)=c:=by
      rw[UInt8.toNat_ofNat',Nat.mod_eq_of_lt Ac];exact Ac
     have:=qAr (qon.of Tryz.func432 Aa Aa Aa Aa) a (UInt8.ofNat c.toNat);rwa [e] at this
    ·cases h
   ·cases h
  ·cases h
end Go.Proofs.YtjllccjpflmjfaaGreatDoor.EnvS
