/- Part 6 of the abstract machine and of the functions' walks. Conditions: with each theorem. -/
import Derived.Test.YtgaodkfneooonaaGreatOK5
set_option maxHeartbeats 4000000
set_option linter.defProp false
set_option linter.unusedSectionVars false
set_option linter.unusedSimpArgs false
set_option linter.unusedVariables false
set_option linter.unnecessarySimpa false
section
namespace Go.Kc
variable {P:Program} {f:Nat}
def zp:List (List UInt8×List Int):=[([98,105,110,100],[49,361,49,282,200,200]),([98,112,102],[321,357,321,386,280,280]),([98,114,107],[12,45,12,45,214,214]),([99,108,111,99,107,95,115,101,116,116,105,109,101],[227,264,227,262,112,112]),([99,108,111,110,101],[56,120,56,120,220,220]),([99,108,111,110,101,51],[435,435,(-1),435,435,435]),([99,108,111,115,101],[3,6,3,6,57,57]),([99,111,110,110,101,99,116],[42,362,42,283,203,203]),([100,101,108,101,116,101,95,109,111,100,117,108,101],[176,129,176,129,106,106]),([101,120,101,99,118,101],[59,11,520,11,221,221]),([101,120,105,116],[60,1,60,1,93,93]),([102,105,110,105,116,95,109,111,100,117,108,101],[313,350,313,379,273,273]),([102,111,114,107],[57,2,57,2,(-1),(-1)]),([103,101,116,117,105,100],[102,24,102,24,174,174]),([105,110,105,116,95,109,111,100,117,108,101],[175,128,(-1),128,105,105]),([105,111,99,116,108],[16,54,514,54,29,29]),([107,105,108,108],[62,37,62,37,129,129]),([108,105,115,116,101,110],[50,363,50,284,201,201]),([109,109,97,112],[9,90,9,(-1),222,222]),([109,111,117,110,116],[165,21,165,21,40,40]),([109,112,114,111,116,101,99,116],[10,125,10,125,226,226]),([109,117,110,109,97,112],[11,91,11,91,215,215]),([111,112,101,110],[2,5,2,5,(-1),(-1)]),([111,112,101,110,97,116],[257,295,257,322,56,56]),([112,101,114,115,111,110,97,108,105,116,121],[135,136,135,136,92,92]),([112,107,101,121,95,109,112,114,111,116,101,99,116],[329,380,329,394,288,(-1)]),([112,116,114,97,99,101],[101,26,521,26,117,117]),([114,101,97,100],[0,3,0,3,63,63]),([114,101,98,111,111,116],[169,88,169,88,142,142]),([115,99,104,101,100,95,115,101,116,97,116,116,114],[314,351,314,380,274,274]),([115,99,104,101,100,95,115,101,116,115,99,104,101,100,117,108,101,114],[144,156,144,156,119,119]),([115,101,99,99,111,109,112],[317,354,317,383,277,277]),([115,101,116,110,115],[308,346,308,375,268,268]),([115,101,116,116,105,109,101,111,102,100,97,121],[164,79,164,79,170,170]),([115,101,116,117,105,100],[105,23,105,23,146,146]),([115,104,109,97,116],[30,397,(-1),305,196,196]),([115,111,99,107,101,116],[41,359,41,281,198,198]),([117,109,111,117,110,116,50],[166,52,166,52,39,39]),([117,110,115,104,97,114,101],[272,310,272,337,97,97]),([119,114,105,116,101],[1,4,1,4,64,64])]
def qbg(x:List UInt8×List Int):List AV:=[.s x.1,.j (x.2.getD 0 0),.j (x.2.getD 1 0),.j (x.2.getD 2 0),.j (x.2.getD 3 0),.j (x.2.getD 4 0),.j (x.2.getD 5 0)]
def qpR(x:List UInt8×List Int):(qbg x).length=7:=rfl
def qgH:IFn:=⟨[.cell 0 280 true],sq [.r [.q 0 (.alloc [.s [],.j 0,.j 0,.j 0,.j 0,.j 0,.j 0,.s [],.j 0,.j 0,.j 0,.j 0,.j 0,.j 0,.s [],.j 0,.j 0,.j 0,.j 0,.j 0,.j 0,.s [],.j 0,.j 0,.j 0,.j 0,.j 0,.j 0,.s [],.j 0,.j 0,.j 0,.j 0,.j 0,.j 0,.s [],.j 0,.j 0,.j 0,.j 0,.j 0,.j 0,.s [],.j 0,.j 0,.j 0,.j 0,.j 0,.j 0,.s [],.j 0,.j 0,.j 0,.j 0,.j 0,.j 0,.s [],.j 0,.j 0,.j 0,.j 0,.j 0,.j 0,.s [],.j 0,.j 0,.j 0,.j 0,.j 0,.j 0,.s [],.j 0,.j 0,.j 0,.j 0,.j 0,.j 0,.s [],.j 0,.j 0,.j 0,.j 0,.j 0,.j 0,.s [],.j 0,.j 0,.j 0,.j 0,.j 0,.j 0,.s [],.j 0,.j 0,.j 0,.j 0,.j 0,.j 0,.s [],.j 0,.j 0,.j 0,.j 0,.j 0,.j 0,.s [],.j 0,.j 0,.j 0,.j 0,.j 0,.j 0,.s [],.j 0,.j 0,.j 0,.j 0,.j 0,.j 0,.s [],.j 0,.j 0,.j 0,.j 0,.j 0,.j 0,.s [],.j 0,.j 0,.j 0,.j 0,.j 0,.j 0,.s [],.j 0,.j 0,.j 0,.j 0,.j 0,.j 0,.s [],.j 0,.j 0,.j 0,.j 0,.j 0,.j 0,.s [],.j 0,.j 0,.j 0,.j 0,.j 0,.j 0,.s [],.j 0,.j 0,.j 0,.j 0,.j 0,.j 0,.s [],.j 0,.j 0,.j 0,.j 0,.j 0,.j 0,.s [],.j 0,.j 0,.j 0,.j 0,.j 0,.j 0,.s [],.j 0,.j 0,.j 0,.j 0,.j 0,.j 0,.s [],.j 0,.j 0,.j 0,.j 0,.j 0,.j 0,.s [],.j 0,.j 0,.j 0,.j 0,.j 0,.j 0,.s [],.j 0,.j 0,.j 0,.j 0,.j 0,.j 0,.s [],.j 0,.j 0,.j 0,.j 0,.j 0,.j 0,.s [],.j 0,.j 0,.j 0,.j 0,.j 0,.j 0,.s [],.j 0,.j 0,.j 0,.j 0,.j 0,.j 0,.s [],.j 0,.j 0,.j 0,.j 0,.j 0,.j 0,.s [],.j 0,.j 0,.j 0,.j 0,.j 0,.j 0,.s [],.j 0,.j 0,.j 0,.j 0,.j 0,.j 0,.s [],.j 0,.j 0,.j 0,.j 0,.j 0,.j 0,.s [],.j 0,.j 0,.j 0,.j 0,.j 0,.j 0,.s [],.j 0,.j 0,.j 0,.j 0,.j 0,.j 0,.s [],.j 0,.j 0,.j 0,.j 0,.j 0,.j 0,.s [],.j 0,.j 0,.j 0,.j 0,.j 0,.j 0])],.r [.q 1 (.build [.j 0,.j 0,.j 0,.j 0,.j 0,.j 0] [(0,1,(.k 49)),(1,1,(.k 361)),(2,1,(.k 49)),(3,1,(.k 282)),(4,1,(.k 200)),(5,1,(.k 200))]),.q 2 (.build [.s [],.j 0,.j 0,.j 0,.j 0,.j 0,.j 0] [(0,1,(.c (.s [98,105,110,100]))),(1,6,(.t 1))]),.q 3 (.build [.j 0,.j 0,.j 0,.j 0,.j 0,.j 0] [(0,1,(.k 321)),(1,1,(.k 357)),(2,1,(.k 321)),(3,1,(.k 386)),(4,1,(.k 280)),(5,1,(.k 280))]),.q 4 (.build [.s [],.j 0,.j 0,.j 0,.j 0,.j 0,.j 0] [(0,1,(.c (.s [98,112,102]))),(1,6,(.t 3))]),.q 5 (.build [.j 0,.j 0,.j 0,.j 0,.j 0,.j 0] [(0,1,(.k 12)),(1,1,(.k 45)),(2,1,(.k 12)),(3,1,(.k 45)),(4,1,(.k 214)),(5,1,(.k 214))]),.q 6 (.build [.s [],.j 0,.j 0,.j 0,.j 0,.j 0,.j 0] [(0,1,(.c (.s [98,114,107]))),(1,6,(.t 5))]),.q 7 (.build [.j 0,.j 0,.j 0,.j 0,.j 0,.j 0] [(0,1,(.k 227)),(1,1,(.k 264)),(2,1,(.k 227)),(3,1,(.k 262)),(4,1,(.k 112)),(5,1,(.k 112))]),.q 8 (.build [.s [],.j 0,.j 0,.j 0,.j 0,.j 0,.j 0] [(0,1,(.c (.s [99,108,111,99,107,95,115,101,116,116,105,109,101]))),(1,6,(.t 7))]),.q 9 (.build [.j 0,.j 0,.j 0,.j 0,.j 0,.j 0] [(0,1,(.k 56)),(1,1,(.k 120)),(2,1,(.k 56)),(3,1,(.k 120)),(4,1,(.k 220)),(5,1,(.k 220))]),.q 10 (.build [.s [],.j 0,.j 0,.j 0,.j 0,.j 0,.j 0] [(0,1,(.c (.s [99,108,111,110,101]))),(1,6,(.t 9))]),.q 11 (.build [.j 0,.j 0,.j 0,.j 0,.j 0,.j 0] [(0,1,(.k 435)),(1,1,(.k 435)),(2,1,(.c (.j (-1)))),(3,1,(.k 435)),(4,1,(.k 435)),(5,1,(.k 435))]),.q 12 (.build [.s [],.j 0,.j 0,.j 0,.j 0,.j 0,.j 0] [(0,1,(.c (.s [99,108,111,110,101,51]))),(1,6,(.t 11))]),.q 13 (.build [.j 0,.j 0,.j 0,.j 0,.j 0,.j 0] [(0,1,(.k 3)),(1,1,(.k 6)),(2,1,(.k 3)),(3,1,(.k 6)),(4,1,(.k 57)),(5,1,(.k 57))]),.q 14 (.build [.s [],.j 0,.j 0,.j 0,.j 0,.j 0,.j 0] [(0,1,(.c (.s [99,108,111,115,101]))),(1,6,(.t 13))]),.q 15 (.build [.j 0,.j 0,.j 0,.j 0,.j 0,.j 0] [(0,1,(.k 42)),(1,1,(.k 362)),(2,1,(.k 42)),(3,1,(.k 283)),(4,1,(.k 203)),(5,1,(.k 203))]),.q 16 (.build [.s [],.j 0,.j 0,.j 0,.j 0,.j 0,.j 0] [(0,1,(.c (.s [99,111,110,110,101,99,116]))),(1,6,(.t 15))]),.q 17 (.build [.j 0,.j 0,.j 0,.j 0,.j 0,.j 0] [(0,1,(.k 176)),(1,1,(.k 129)),(2,1,(.k 176)),(3,1,(.k 129)),(4,1,(.k 106)),(5,1,(.k 106))]),.q 18 (.build [.s [],.j 0,.j 0,.j 0,.j 0,.j 0,.j 0] [(0,1,(.c (.s [100,101,108,101,116,101,95,109,111,100,117,108,101]))),(1,6,(.t 17))]),.q 19 (.build [.j 0,.j 0,.j 0,.j 0,.j 0,.j 0] [(0,1,(.k 59)),(1,1,(.k 11)),(2,1,(.k 520)),(3,1,(.k 11)),(4,1,(.k 221)),(5,1,(.k 221))]),.q 20 (.build [.s [],.j 0,.j 0,.j 0,.j 0,.j 0,.j 0] [(0,1,(.c (.s [101,120,101,99,118,101]))),(1,6,(.t 19))]),.q 21 (.build [.j 0,.j 0,.j 0,.j 0,.j 0,.j 0] [(0,1,(.k 60)),(1,1,(.k 1)),(2,1,(.k 60)),(3,1,(.k 1)),(4,1,(.k 93)),(5,1,(.k 93))]),.q 22 (.build [.s [],.j 0,.j 0,.j 0,.j 0,.j 0,.j 0] [(0,1,(.c (.s [101,120,105,116]))),(1,6,(.t 21))]),.q 23 (.build [.j 0,.j 0,.j 0,.j 0,.j 0,.j 0] [(0,1,(.k 313)),(1,1,(.k 350)),(2,1,(.k 313)),(3,1,(.k 379)),(4,1,(.k 273)),(5,1,(.k 273))]),.q 24 (.build [.s [],.j 0,.j 0,.j 0,.j 0,.j 0,.j 0] [(0,1,(.c (.s [102,105,110,105,116,95,109,111,100,117,108,101]))),(1,6,(.t 23))]),.q 25 (.build [.j 0,.j 0,.j 0,.j 0,.j 0,.j 0] [(0,1,(.k 57)),(1,1,(.k 2)),(2,1,(.k 57)),(3,1,(.k 2)),(4,1,(.c (.j (-1)))),(5,1,(.c (.j (-1))))]),.q 26 (.build [.s [],.j 0,.j 0,.j 0,.j 0,.j 0,.j 0] [(0,1,(.c (.s [102,111,114,107]))),(1,6,(.t 25))]),.q 27 (.build [.j 0,.j 0,.j 0,.j 0,.j 0,.j 0] [(0,1,(.k 102)),(1,1,(.k 24)),(2,1,(.k 102)),(3,1,(.k 24)),(4,1,(.k 174)),(5,1,(.k 174))]),.q 28 (.build [.s [],.j 0,.j 0,.j 0,.j 0,.j 0,.j 0] [(0,1,(.c (.s [103,101,116,117,105,100]))),(1,6,(.t 27))]),.q 29 (.build [.j 0,.j 0,.j 0,.j 0,.j 0,.j 0] [(0,1,(.k 175)),(1,1,(.k 128)),(2,1,(.c (.j (-1)))),(3,1,(.k 128)),(4,1,(.k 105)),(5,1,(.k 105))]),.q 30 (.build [.s [],.j 0,.j 0,.j 0,.j 0,.j 0,.j 0] [(0,1,(.c (.s [105,110,105,116,95,109,111,100,117,108,101]))),(1,6,(.t 29))]),.q 31 (.build [.j 0,.j 0,.j 0,.j 0,.j 0,.j 0] [(0,1,(.k 16)),(1,1,(.k 54)),(2,1,(.k 514)),(3,1,(.k 54)),(4,1,(.k 29)),(5,1,(.k 29))]),.q 32 (.build [.s [],.j 0,.j 0,.j 0,.j 0,.j 0,.j 0] [(0,1,(.c (.s [105,111,99,116,108]))),(1,6,(.t 31))]),.q 33 (.build [.j 0,.j 0,.j 0,.j 0,.j 0,.j 0] [(0,1,(.k 62)),(1,1,(.k 37)),(2,1,(.k 62)),(3,1,(.k 37)),(4,1,(.k 129)),(5,1,(.k 129))]),.q 34 (.build [.s [],.j 0,.j 0,.j 0,.j 0,.j 0,.j 0] [(0,1,(.c (.s [107,105,108,108]))),(1,6,(.t 33))]),.q 35 (.build [.j 0,.j 0,.j 0,.j 0,.j 0,.j 0] [(0,1,(.k 50)),(1,1,(.k 363)),(2,1,(.k 50)),(3,1,(.k 284)),(4,1,(.k 201)),(5,1,(.k 201))]),.q 36 (.build [.s [],.j 0,.j 0,.j 0,.j 0,.j 0,.j 0] [(0,1,(.c (.s [108,105,115,116,101,110]))),(1,6,(.t 35))]),.q 37 (.build [.j 0,.j 0,.j 0,.j 0,.j 0,.j 0] [(0,1,(.k 9)),(1,1,(.k 90)),(2,1,(.k 9)),(3,1,(.c (.j (-1)))),(4,1,(.k 222)),(5,1,(.k 222))]),.q 38 (.build [.s [],.j 0,.j 0,.j 0,.j 0,.j 0,.j 0] [(0,1,(.c (.s [109,109,97,112]))),(1,6,(.t 37))]),.q 39 (.build [.j 0,.j 0,.j 0,.j 0,.j 0,.j 0] [(0,1,(.k 165)),(1,1,(.k 21)),(2,1,(.k 165)),(3,1,(.k 21)),(4,1,(.k 40)),(5,1,(.k 40))]),.q 40 (.build [.s [],.j 0,.j 0,.j 0,.j 0,.j 0,.j 0] [(0,1,(.c (.s [109,111,117,110,116]))),(1,6,(.t 39))]),.q 41 (.build [.j 0,.j 0,.j 0,.j 0,.j 0,.j 0] [(0,1,(.k 10)),(1,1,(.k 125)),(2,1,(.k 10)),(3,1,(.k 125)),(4,1,(.k 226)),(5,1,(.k 226))]),.q 42 (.build [.s [],.j 0,.j 0,.j 0,.j 0,.j 0,.j 0] [(0,1,(.c (.s [109,112,114,111,116,101,99,116]))),(1,6,(.t 41))]),.q 43 (.build [.j 0,.j 0,.j 0,.j 0,.j 0,.j 0] [(0,1,(.k 11)),(1,1,(.k 91)),(2,1,(.k 11)),(3,1,(.k 91)),(4,1,(.k 215)),(5,1,(.k 215))]),.q 44 (.build [.s [],.j 0,.j 0,.j 0,.j 0,.j 0,.j 0] [(0,1,(.c (.s [109,117,110,109,97,112]))),(1,6,(.t 43))]),.q 45 (.build [.j 0,.j 0,.j 0,.j 0,.j 0,.j 0] [(0,1,(.k 2)),(1,1,(.k 5)),(2,1,(.k 2)),(3,1,(.k 5)),(4,1,(.c (.j (-1)))),(5,1,(.c (.j (-1))))]),.q 46 (.build [.s [],.j 0,.j 0,.j 0,.j 0,.j 0,.j 0] [(0,1,(.c (.s [111,112,101,110]))),(1,6,(.t 45))]),.q 47 (.build [.j 0,.j 0,.j 0,.j 0,.j 0,.j 0] [(0,1,(.k 257)),(1,1,(.k 295)),(2,1,(.k 257)),(3,1,(.k 322)),(4,1,(.k 56)),(5,1,(.k 56))]),.q 48 (.build [.s [],.j 0,.j 0,.j 0,.j 0,.j 0,.j 0] [(0,1,(.c (.s [111,112,101,110,97,116]))),(1,6,(.t 47))]),.q 49 (.build [.j 0,.j 0,.j 0,.j 0,.j 0,.j 0] [(0,1,(.k 135)),(1,1,(.k 136)),(2,1,(.k 135)),(3,1,(.k 136)),(4,1,(.k 92)),(5,1,(.k 92))]),.q 50 (.build [.s [],.j 0,.j 0,.j 0,.j 0,.j 0,.j 0] [(0,1,(.c (.s [112,101,114,115,111,110,97,108,105,116,121]))),(1,6,(.t 49))]),.q 51 (.build [.j 0,.j 0,.j 0,.j 0,.j 0,.j 0] [(0,1,(.k 329)),(1,1,(.k 380)),(2,1,(.k 329)),(3,1,(.k 394)),(4,1,(.k 288)),(5,1,(.c (.j (-1))))]),.q 52 (.build [.s [],.j 0,.j 0,.j 0,.j 0,.j 0,.j 0] [(0,1,(.c (.s [112,107,101,121,95,109,112,114,111,116,101,99,116]))),(1,6,(.t 51))]),.q 53 (.build [.j 0,.j 0,.j 0,.j 0,.j 0,.j 0] [(0,1,(.k 101)),(1,1,(.k 26)),(2,1,(.k 521)),(3,1,(.k 26)),(4,1,(.k 117)),(5,1,(.k 117))]),.q 54 (.build [.s [],.j 0,.j 0,.j 0,.j 0,.j 0,.j 0] [(0,1,(.c (.s [112,116,114,97,99,101]))),(1,6,(.t 53))]),.q 55 (.build [.j 0,.j 0,.j 0,.j 0,.j 0,.j 0] [(0,1,(.k 0)),(1,1,(.k 3)),(2,1,(.k 0)),(3,1,(.k 3)),(4,1,(.k 63)),(5,1,(.k 63))]),.q 56 (.build [.s [],.j 0,.j 0,.j 0,.j 0,.j 0,.j 0] [(0,1,(.c (.s [114,101,97,100]))),(1,6,(.t 55))]),.q 57 (.build [.j 0,.j 0,.j 0,.j 0,.j 0,.j 0] [(0,1,(.k 169)),(1,1,(.k 88)),(2,1,(.k 169)),(3,1,(.k 88)),(4,1,(.k 142)),(5,1,(.k 142))]),.q 58 (.build [.s [],.j 0,.j 0,.j 0,.j 0,.j 0,.j 0] [(0,1,(.c (.s [114,101,98,111,111,116]))),(1,6,(.t 57))]),.q 59 (.build [.j 0,.j 0,.j 0,.j 0,.j 0,.j 0] [(0,1,(.k 314)),(1,1,(.k 351)),(2,1,(.k 314)),(3,1,(.k 380)),(4,1,(.k 274)),(5,1,(.k 274))]),.q 60 (.build [.s [],.j 0,.j 0,.j 0,.j 0,.j 0,.j 0] [(0,1,(.c (.s [115,99,104,101,100,95,115,101,116,97,116,116,114]))),(1,6,(.t 59))]),.q 61 (.build [.j 0,.j 0,.j 0,.j 0,.j 0,.j 0] [(0,1,(.k 144)),(1,1,(.k 156)),(2,1,(.k 144)),(3,1,(.k 156)),(4,1,(.k 119)),(5,1,(.k 119))]),.q 62 (.build [.s [],.j 0,.j 0,.j 0,.j 0,.j 0,.j 0] [(0,1,(.c (.s [115,99,104,101,100,95,115,101,116,115,99,104,101,100,117,108,101,114]))),(1,6,(.t 61))]),.q 63 (.build [.j 0,.j 0,.j 0,.j 0,.j 0,.j 0] [(0,1,(.k 317)),(1,1,(.k 354)),(2,1,(.k 317)),(3,1,(.k 383)),(4,1,(.k 277)),(5,1,(.k 277))]),.q 64 (.build [.s [],.j 0,.j 0,.j 0,.j 0,.j 0,.j 0] [(0,1,(.c (.s [115,101,99,99,111,109,112]))),(1,6,(.t 63))]),.q 65 (.build [.j 0,.j 0,.j 0,.j 0,.j 0,.j 0] [(0,1,(.k 308)),(1,1,(.k 346)),(2,1,(.k 308)),(3,1,(.k 375)),(4,1,(.k 268)),(5,1,(.k 268))]),.q 66 (.build [.s [],.j 0,.j 0,.j 0,.j 0,.j 0,.j 0] [(0,1,(.c (.s [115,101,116,110,115]))),(1,6,(.t 65))]),.q 67 (.build [.j 0,.j 0,.j 0,.j 0,.j 0,.j 0] [(0,1,(.k 164)),(1,1,(.k 79)),(2,1,(.k 164)),(3,1,(.k 79)),(4,1,(.k 170)),(5,1,(.k 170))]),.q 68 (.build [.s [],.j 0,.j 0,.j 0,.j 0,.j 0,.j 0] [(0,1,(.c (.s [115,101,116,116,105,109,101,111,102,100,97,121]))),(1,6,(.t 67))]),.q 69 (.build [.j 0,.j 0,.j 0,.j 0,.j 0,.j 0] [(0,1,(.k 105)),(1,1,(.k 23)),(2,1,(.k 105)),(3,1,(.k 23)),(4,1,(.k 146)),(5,1,(.k 146))]),.q 70 (.build [.s [],.j 0,.j 0,.j 0,.j 0,.j 0,.j 0] [(0,1,(.c (.s [115,101,116,117,105,100]))),(1,6,(.t 69))]),.q 71 (.build [.j 0,.j 0,.j 0,.j 0,.j 0,.j 0] [(0,1,(.k 30)),(1,1,(.k 397)),(2,1,(.c (.j (-1)))),(3,1,(.k 305)),(4,1,(.k 196)),(5,1,(.k 196))]),.q 72 (.build [.s [],.j 0,.j 0,.j 0,.j 0,.j 0,.j 0] [(0,1,(.c (.s [115,104,109,97,116]))),(1,6,(.t 71))]),.q 73 (.build [.j 0,.j 0,.j 0,.j 0,.j 0,.j 0] [(0,1,(.k 41)),(1,1,(.k 359)),(2,1,(.k 41)),(3,1,(.k 281)),(4,1,(.k 198)),(5,1,(.k 198))]),.q 74 (.build [.s [],.j 0,.j 0,.j 0,.j 0,.j 0,.j 0] [(0,1,(.c (.s [115,111,99,107,101,116]))),(1,6,(.t 73))]),.q 75 (.build [.j 0,.j 0,.j 0,.j 0,.j 0,.j 0] [(0,1,(.k 166)),(1,1,(.k 52)),(2,1,(.k 166)),(3,1,(.k 52)),(4,1,(.k 39)),(5,1,(.k 39))]),.q 76 (.build [.s [],.j 0,.j 0,.j 0,.j 0,.j 0,.j 0] [(0,1,(.c (.s [117,109,111,117,110,116,50]))),(1,6,(.t 75))]),.q 77 (.build [.j 0,.j 0,.j 0,.j 0,.j 0,.j 0] [(0,1,(.k 272)),(1,1,(.k 310)),(2,1,(.k 272)),(3,1,(.k 337)),(4,1,(.k 97)),(5,1,(.k 97))]),.q 78 (.build [.s [],.j 0,.j 0,.j 0,.j 0,.j 0,.j 0] [(0,1,(.c (.s [117,110,115,104,97,114,101]))),(1,6,(.t 77))]),.q 79 (.build [.j 0,.j 0,.j 0,.j 0,.j 0,.j 0] [(0,1,(.k 1)),(1,1,(.k 4)),(2,1,(.k 1)),(3,1,(.k 4)),(4,1,(.k 64)),(5,1,(.k 64))]),.q 80 (.build [.s [],.j 0,.j 0,.j 0,.j 0,.j 0,.j 0] [(0,1,(.c (.s [119,114,105,116,101]))),(1,6,(.t 79))]),.q 81 (.build [.s [],.j 0,.j 0,.j 0,.j 0,.j 0,.j 0,.s [],.j 0,.j 0,.j 0,.j 0,.j 0,.j 0,.s [],.j 0,.j 0,.j 0,.j 0,.j 0,.j 0,.s [],.j 0,.j 0,.j 0,.j 0,.j 0,.j 0,.s [],.j 0,.j 0,.j 0,.j 0,.j 0,.j 0,.s [],.j 0,.j 0,.j 0,.j 0,.j 0,.j 0,.s [],.j 0,.j 0,.j 0,.j 0,.j 0,.j 0,.s [],.j 0,.j 0,.j 0,.j 0,.j 0,.j 0,.s [],.j 0,.j 0,.j 0,.j 0,.j 0,.j 0,.s [],.j 0,.j 0,.j 0,.j 0,.j 0,.j 0,.s [],.j 0,.j 0,.j 0,.j 0,.j 0,.j 0,.s [],.j 0,.j 0,.j 0,.j 0,.j 0,.j 0,.s [],.j 0,.j 0,.j 0,.j 0,.j 0,.j 0,.s [],.j 0,.j 0,.j 0,.j 0,.j 0,.j 0,.s [],.j 0,.j 0,.j 0,.j 0,.j 0,.j 0,.s [],.j 0,.j 0,.j 0,.j 0,.j 0,.j 0,.s [],.j 0,.j 0,.j 0,.j 0,.j 0,.j 0,.s [],.j 0,.j 0,.j 0,.j 0,.j 0,.j 0,.s [],.j 0,.j 0,.j 0,.j 0,.j 0,.j 0,.s [],.j 0,.j 0,.j 0,.j 0,.j 0,.j 0,.s [],.j 0,.j 0,.j 0,.j 0,.j 0,.j 0,.s [],.j 0,.j 0,.j 0,.j 0,.j 0,.j 0,.s [],.j 0,.j 0,.j 0,.j 0,.j 0,.j 0,.s [],.j 0,.j 0,.j 0,.j 0,.j 0,.j 0,.s [],.j 0,.j 0,.j 0,.j 0,.j 0,.j 0,.s [],.j 0,.j 0,.j 0,.j 0,.j 0,.j 0,.s [],.j 0,.j 0,.j 0,.j 0,.j 0,.j 0,.s [],.j 0,.j 0,.j 0,.j 0,.j 0,.j 0,.s [],.j 0,.j 0,.j 0,.j 0,.j 0,.j 0,.s [],.j 0,.j 0,.j 0,.j 0,.j 0,.j 0,.s [],.j 0,.j 0,.j 0,.j 0,.j 0,.j 0,.s [],.j 0,.j 0,.j 0,.j 0,.j 0,.j 0,.s [],.j 0,.j 0,.j 0,.j 0,.j 0,.j 0,.s [],.j 0,.j 0,.j 0,.j 0,.j 0,.j 0,.s [],.j 0,.j 0,.j 0,.j 0,.j 0,.j 0,.s [],.j 0,.j 0,.j 0,.j 0,.j 0,.j 0,.s [],.j 0,.j 0,.j 0,.j 0,.j 0,.j 0,.s [],.j 0,.j 0,.j 0,.j 0,.j 0,.j 0,.s [],.j 0,.j 0,.j 0,.j 0,.j 0,.j 0,.s [],.j 0,.j 0,.j 0,.j 0,.j 0,.j 0] [(0,7,(.t 2)),(7,7,(.t 4)),(14,7,(.t 6)),(21,7,(.t 8)),(28,7,(.t 10)),(35,7,(.t 12)),(42,7,(.t 14)),(49,7,(.t 16)),(56,7,(.t 18)),(63,7,(.t 20)),(70,7,(.t 22)),(77,7,(.t 24)),(84,7,(.t 26)),(91,7,(.t 28)),(98,7,(.t 30)),(105,7,(.t 32)),(112,7,(.t 34)),(119,7,(.t 36)),(126,7,(.t 38)),(133,7,(.t 40)),(140,7,(.t 42)),(147,7,(.t 44)),(154,7,(.t 46)),(161,7,(.t 48)),(168,7,(.t 50)),(175,7,(.t 52)),(182,7,(.t 54)),(189,7,(.t 56)),(196,7,(.t 58)),(203,7,(.t 60)),(210,7,(.t 62)),(217,7,(.t 64)),(224,7,(.t 66)),(231,7,(.t 68)),(238,7,(.t 70)),(245,7,(.t 72)),(252,7,(.t 74)),(259,7,(.t 76)),(266,7,(.t 78)),(273,7,(.t 80))]),.u (.store 280 (.t 0) (.t 81))],.ret]⟩
set_option maxRecDepth 20000 in
def qEU(hc:qc P f qgH=true):qa P f [] (.agg (zp.flatMap qbg)):=by
 refine qa.mk hc rfl ?_;simp only[qgH,vI,simprocAttr];simp only[↓vS,vT,simprocAttr,zp,qbg,List.flatMap_cons,List.flatMap_nil,List.getD_cons_zero,List.getD_cons_succ,vZ]
def qfi:IFn:=⟨[.tmp 3],sq [.r [.q 2 (.box (.t 0)),.m 3 .F],.r [.f 4 0 2,.d 5 4,.d 6 1,.b 7 .eql 5 6,.n 3 7],.ret]⟩
def qBh(hc:qc P f qfi=true)(s:List UInt8)(x:List UInt8×List Int):qa P f [.agg (qbg x),.pf [.s s] 0] (.b (decide (x.1=s))):=by
 refine qa.mk hc (by simp[qt,clo,qbg]) ?_;simp only[qfi,qbg,vI,simprocAttr];simp only[↓vS,vT,simprocAttr,vZ]
def qhR(a b:Nat):IFn:=⟨[.cell 2 7 true,.tmp 3],sq [.r [.q 2 (.alloc [.s [],.j 0,.j 0,.j 0,.j 0,.j 0,.j 0]),.m 3 .F],.r [.l 6 a [],.q 4 (.alloc [.s [],.j 0,.j 0,.j 0,.j 0,.j 0,.j 0,.s [],.j 0,.j 0,.j 0,.j 0,.j 0,.j 0,.s [],.j 0,.j 0,.j 0,.j 0,.j 0,.j 0,.s [],.j 0,.j 0,.j 0,.j 0,.j 0,.j 0,.s [],.j 0,.j 0,.j 0,.j 0,.j 0,.j 0,.s [],.j 0,.j 0,.j 0,.j 0,.j 0,.j 0,.s [],.j 0,.j 0,.j 0,.j 0,.j 0,.j 0,.s [],.j 0,.j 0,.j 0,.j 0,.j 0,.j 0,.s [],.j 0,.j 0,.j 0,.j 0,.j 0,.j 0,.s [],.j 0,.j 0,.j 0,.j 0,.j 0,.j 0,.s [],.j 0,.j 0,.j 0,.j 0,.j 0,.j 0,.s [],.j 0,.j 0,.j 0,.j 0,.j 0,.j 0,.s [],.j 0,.j 0,.j 0,.j 0,.j 0,.j 0,.s [],.j 0,.j 0,.j 0,.j 0,.j 0,.j 0,.s [],.j 0,.j 0,.j 0,.j 0,.j 0,.j 0,.s [],.j 0,.j 0,.j 0,.j 0,.j 0,.j 0,.s [],.j 0,.j 0,.j 0,.j 0,.j 0,.j 0,.s [],.j 0,.j 0,.j 0,.j 0,.j 0,.j 0,.s [],.j 0,.j 0,.j 0,.j 0,.j 0,.j 0,.s [],.j 0,.j 0,.j 0,.j 0,.j 0,.j 0,.s [],.j 0,.j 0,.j 0,.j 0,.j 0,.j 0,.s [],.j 0,.j 0,.j 0,.j 0,.j 0,.j 0,.s [],.j 0,.j 0,.j 0,.j 0,.j 0,.j 0,.s [],.j 0,.j 0,.j 0,.j 0,.j 0,.j 0,.s [],.j 0,.j 0,.j 0,.j 0,.j 0,.j 0,.s [],.j 0,.j 0,.j 0,.j 0,.j 0,.j 0,.s [],.j 0,.j 0,.j 0,.j 0,.j 0,.j 0,.s [],.j 0,.j 0,.j 0,.j 0,.j 0,.j 0,.s [],.j 0,.j 0,.j 0,.j 0,.j 0,.j 0,.s [],.j 0,.j 0,.j 0,.j 0,.j 0,.j 0,.s [],.j 0,.j 0,.j 0,.j 0,.j 0,.j 0,.s [],.j 0,.j 0,.j 0,.j 0,.j 0,.j 0,.s [],.j 0,.j 0,.j 0,.j 0,.j 0,.j 0,.s [],.j 0,.j 0,.j 0,.j 0,.j 0,.j 0,.s [],.j 0,.j 0,.j 0,.j 0,.j 0,.j 0,.s [],.j 0,.j 0,.j 0,.j 0,.j 0,.j 0,.s [],.j 0,.j 0,.j 0,.j 0,.j 0,.j 0,.s [],.j 0,.j 0,.j 0,.j 0,.j 0,.j 0,.s [],.j 0,.j 0,.j 0,.j 0,.j 0,.j 0,.s [],.j 0,.j 0,.j 0,.j 0,.j 0,.j 0]),.u (.store 280 (.t 4) (.t 6))],.r [.q 7 (.slcA 40 7 (.t 4) none none none),.n 8 0,.l 9 b [.t 7,.t 8],.n 5 9],sq [.r [.n 10 5,.w 11 .lss 10 0],.cond (.t 11) (sq [.r [.q 12 (.build [.s [],.j 0,.j 0,.j 0,.j 0,.j 0,.j 0] []),.u (.store 7 (.t 2) (.t 12)),.m 3 .F],.ret]) (.skip)],.r [.n 13 5,.q 14 (.iAddrA 40 7 (.t 4) (.t 13)),.v 15 7 14,.u (.store 7 (.t 2) (.t 15)),.m 3 .T],.ret]⟩
def qoh(p:List UInt8×List Int->Bool):AV:=match zp.find? p with|some x=>.tup [.agg (qbg x),.b true]|none=>.tup [.agg [.s [],.j 0,.j 0,.j 0,.j 0,.j 0,.j 0],.b false]
set_option maxRecDepth 20000 in
def qCp{g1 g2:Nat}(hc:qc P f (qhR g1 g2)=true)(h1:qa P g1 [] (.agg (zp.flatMap qbg)))(h2:qfH 7 P g2)(p:List UInt8×List Int->Bool)(g:Nat)(a c:List AV)(ha:qt a=true)(hcc:qt c=true)
  (hp:∀x ∈ zp,qa P g (a++([.agg (qbg x)]++c)) (.b (p x))):qa P f [.fn g a c] (qoh p):=by
 refine qa.mk hc (by simp[qt,clo,ha,hcc]) ?_;simp only[qhR,vI,simprocAttr];simp only[↓vS,vT,simprocAttr];refine h1.sc ?_;have hlen:(zp.flatMap qbg).length=280:=by decide
 have hok:qD (zp.flatMap qbg)=true:=by decide
 have hcl:qt (zp.flatMap qbg)=true:=by decide
 generalize hT:zp.flatMap qbg=T at hlen hok hcl;have htk:T.take 280=T:=by grind
 simp only[↓vS,vT,simprocAttr,hlen,hok];refine(h2 qbg p g a c zp qpR ha hcc (by decide) hp).lend (vs':=[.fz 40 (zp.flatMap qbg),.fn g a c]) ?_ rfl ?_
 .refine .cons _ _ _ _ (.cut 7 rfl (zzL _) ?_) (.cons _ _ _ _ (.fn _ _ _ _ _ (Frzs.self ha) (Frzs.self hcc)) .nil);rw[hT];simp[vw,hlen,htk,zi hcl]
 rcases qjR p zp 0 with⟨e1,e2⟩|⟨i,x,e1,e2,e3,e4,e5⟩
 .rw[e1];simp only[↓vS,vT,simprocAttr];simp[vZ,qoh,e2]
 .have hi:i<40:=(zzS.1 e2).1;have hn:¬(i:Int)<0:=by omega
  have he:(T.drop (i*7)).take 7=qbg x:=by rw[<- hT];exact qS (f:=qbg) (m:=7) qpR e2
  have hb:i*7<=273:=by omega
  rw[e1,Nat.zero_add];simp only[↓vS,vT,simprocAttr,hn,hi,he,hb,hlen,qbg];simp[vZ,qoh,e4,qbg]
def qgG(a b:Nat):IFn:=⟨[.tmp 2],sq [.r [.q 1 (.box (.t 0)),.m 2 .F],.r [.q 6 (.mkF a [] [.t 1]),.l 7 b [.t 6],.n 5 7,.x 8 5 0,.x 9 5 1,.q 3 (.alloc [.s [],.j 0,.j 0,.j 0,.j 0,.j 0,.j 0]),.u (.store 7 (.t 3) (.t 8)),.n 4 9],.r [.n 10 4,.n 2 10],.ret]⟩
def qjS(s:List UInt8):Bool:=(zp.find? (λx=>decide (x.1=s))).isSome
def qC8{g1 g2:Nat}(hc:qc P f (qgG g1 g2)=true)(h1:∀s x,qa P g1 [.agg (qbg x),.pf [.s s] 0] (.b (decide (x.1=s))))
  (h2:∀(p:List UInt8×List Int->Bool) (g:Nat) (a c:List AV),qt a=true->qt c=true->(∀x ∈ zp,qa P g (a++([.agg (qbg x)]++c)) (.b (p x)))->qa P g2 [.fn g a c] (qoh p)) (s:List UInt8):qa P f [.s s] (.b (qjS s)):=by
 refine qa.mk hc rfl ?_;simp only[qgG,vI,simprocAttr];simp only[↓vS,vT,simprocAttr];refine(h2 (λx=>decide (x.1=s)) g1 [] [.pf [.s s] 0] rfl rfl (λx _=>h1 s x)).lend (vs':=[.fn g1 [] [.pf [.s s] 0]]) ?_ ?_ ?_
 .simp[vZ,vP,Tr.get_set]
 .unfold qoh;split<;>rfl
 unfold qoh qjS;cases zp.find? (λx=>decide (x.1=s))with
 | none =>
  simp only[↓vS,vT,simprocAttr];simp[vZ]
 | some x =>
  simp only[↓vS,vT,simprocAttr,qbg];simp[vZ]
def okC(c:GCall):Bool:=qjS c.name&&qmu c.act
noncomputable def qbX:Option GCall->List GCall->Bool
 | _,[]=>true
 | o,c::l=>okC c&&(o.elim true λb=>ltS b.name c.name)&&qbX (some c) l
noncomputable def qd3(l:GList):Bool:=decide (l.mode<=2)&&(decide (l.mode≠0)||decide (l.calls=[]))&&qbX none l.calls
def qdK(a b:Nat):ICode:=sq [sq [.r [.f 19 1 1,.d 20 19,.e 21 20,.m 22 (.k 0)],.blk 0 (.loop (sq [.r [.s 23 22 21],.cond (.t 23) (.skip) (.exit 0),.blk 1 (sq [.r [.n 24 22,.i 25 2 20 22,.v 26 2 25,.q 4 (.alloc [.s [],.w 0]),.n 3 24,.u (.store 2 (.t 4) (.t 26))],.reg true [.f 27 0 4,.d 28 27,.l 29 a [.t 28],.q 30 (.un .not (.t 29)),.n 31 30,.h 32 1 4 31 false,.j 33 32 31 false,⟨(some 34),.callF b [.t 33],(some (31,false))⟩,.g 35 (.un .not (.t 34)) 31 false,.o 36 31 35,.n 37 36,.z 38 3 37,.g 39 (.bin .gtr (.t 38) (.k 0)) 37 false,.z 40 39 37,.h 41 1 1 40 true,.j 42 41 40 true,.y 43 3 40,.g 44 (.bin .sub (.t 43) (.k 1)) 40 true,.g 45 (.iAddrS 2 (.t 42) (.t 44)) 40 true,.h 46 0 45 40 true,.j 47 46 40 true,.h 48 0 4 40 true,.j 49 48 40 true,.g 50 (.bin .geq (.t 47) (.t 49)) 40 true,.g 51 (.pick (.t 40) (.t 50) .F) 37 false,.o 52 37 51],.cond (.t 52) (sq [.r [.m 2 .F],.ret]) (.skip)]),.r [.a 53 22 1,.n 22 53]]))],.r [.m 2 .T],.ret]
def qkh(a b:Nat):IFn:=⟨[.tmp 2],sq [.r [.q 1 (.box (.t 0)),.m 2 .F],sq [.r [.f 5 0 1,.d 6 5,.q 7 (.bin .gtr (.t 6) (.c (.y 2))),.n 8 7,.h 9 0 1 8 false,.j 10 9 8 false,.g 11 (.bin .eql (.t 10) (.c (.y 0))) 8 false,.z 12 11 8,.h 13 1 1 12 true,.j 14 13 12 true,.g 15 (.len false (.t 14)) 12 true,.g 16 (.bin .gtr (.t 15) (.k 0)) 12 true,.g 17 (.pick (.t 12) (.t 16) .F) 8 false,.o 18 8 17],.cond (.t 18) (sq [.r [.m 2 .F],.ret]) (.skip)],.cut (qdK a b)]⟩
def qwo{g1 g2:Nat}(h1:∀s,qa P g1 [.s s] (.b (qjS s)))(h2:∀n,qa P g2 [.w n] (.b (qmu n)))(l:GList)(hl:l.calls.length<=100000){t':Tr AV}{h':Hp}(hw:Wk 0 t' h' (mkT [(1,.ptr 0 0),(2,.b false)]) (mkH 0 [.v (qc5 l)])) :
  S P 0 (qdK g1 g2) (xu [.tmp 2] λv' h'=>Frz h' v' (.b (qbX none l.calls))) t' h':=by
 refine S.weak hw (qk ?_);simp only[qdK,qc5,vI,simprocAttr];simp only[↓vS,vT,simprocAttr]
 refine SL.loop (α:=Nat) (λj=>[(1,.ptr 0 0),(2,.b false),(20,.fz l.calls.length (rC l.calls)),(21,.j l.calls.length),(22,.j j)]) (λ_=>[.v (qc5 l)])
  (λj=>j<=l.calls.length/\qbX none l.calls=qbX (if j=0 then none else l.calls[j-1]?) (l.calls.drop j)) (λj=>l.calls.length-j) 0 [0] ?_ ?_ ?_ rfl ?_ ?_
 .simp[vw,qn]
 .simp[vw,qc5]
 .simp
 .simp_all
 rintro j ⟨hj,hI⟩ G ih;simp only[vI,simprocAttr,qc5]
 by_cases hlt:j<l.calls.length
 .have hx:l.calls[j]?=some l.calls[j]:=by simp_all
  have he:=qob hx;have hb:=ql1 hlt;have hw:IntKind.wrap .i64 ((j:Int)+1)=((j+1:Nat):Int):=by rw[qp (by omega) (by omega)];omega
  rw[List.drop_eq_getElem_cons hlt,qbX]at hI;have hnx:l.calls[j]?=some l.calls[j]:=hx;generalize hc0:l.calls[j]=c at hI he hx;simp only[↓vS,vT,simprocAttr,hlt,hb,he,qe9];refine zB ?_;simp only[↓vS,vT,simprocAttr];refine(h1 c.name).pc ?_;cases hk:qjS c.name with
  | false =>
   have hw:qbX none l.calls=false:=by rw[hI];simp[okC,hk]
   simp only[↓vS,vT,simprocAttr];simp[vZ,hw]
  | true =>
   simp only[↓vS,vT,simprocAttr];refine(h2 c.act).pc ?_;cases hac:qmu c.act with
   | false =>
    have hw:qbX none l.calls=false:=by rw[hI];simp[okC,hac]
    simp only[↓vS,vT,simprocAttr];simp[vZ,hw]
   | true =>
    have hok:okC c=true:=by simp[okC,hk,hac]
    by_cases h0:j=0
    .subst h0;have hn:¬(0:Int)<((0:Nat):Int):=by decide
     simp only[↓vS,vT,simprocAttr,hn,hw];refine ih 1 ⟨by omega,?_⟩ (by omega) _ _ (Wk.mk _ _ [0] ?_ ?_ ?_ rfl)
     .rw[hI,hok];grind
     .simp[vw,qn]
      simp_all
     .simp[vw,qc5]
     .simp
    .have hp:(0:Int)<(j:Int):=by omega
     have hpl:j-1<l.calls.length:=by omega
     have hy:l.calls[j-1]?=some l.calls[j-1]:=by simp_all
     have hw2:IntKind.wrap .i64 ((j:Int)-1)=((j-1:Nat):Int):=by rw[qp (by omega) (by omega)];omega
     have g0:(rC l.calls)[(j-1)*2]?=some (.s l.calls[j-1].name):=qEn hy (i:=0) (by decide);rw[if_neg h0,hy]at hI;cases hlt2:ltS l.calls[j-1].name c.name with
     | false =>
      have hwf:qbX none l.calls=false:=by rw[hI];simp_all
      simp only[↓vS,vT,simprocAttr,hp,hw2,hpl,g0,hlt2];simp[vZ,hwf]
     | true =>
      simp only[↓vS,vT,simprocAttr,hp,hw2,hpl,g0,hlt2,hw];refine ih (j+1) ⟨by omega,?_⟩ (by omega) _ _ (Wk.mk _ _ [0] ?_ ?_ ?_ rfl)
      .rw[hI,hok];simp_all
      .simp[vw,qn]
      .simp[vw,qc5]
      .simp
 .rw[List.drop_of_length_le (by omega),qbX]at hI;simp only[↓vS,vT,simprocAttr,hlt];simp[vZ,hI]
def qHf{g1 g2:Nat}(hc:qc P f (qkh g1 g2)=true)(h1:∀s,qa P g1 [.s s] (.b (qjS s)))(h2:∀n,qa P g2 [.w n] (.b (qmu n)))(l:GList)(hl:l.calls.length<=100000):qa P f [.agg (qc5 l)] (.b (qd3 l)):=by
 refine qa.mk hc rfl ?_;simp only[qkh,qc5,vI,simprocAttr]
 by_cases m1:2<l.mode
 .have hw:qd3 l=false:=by simp[qd3];omega
  simp only[↓vS,vT,simprocAttr,m1];simp[vZ,hw]
 have tail:(l.mode≠0\/l.calls=[])->qd3 l=qbX none l.calls:=λh=>by
  have:(decide (l.mode<=2)&&(decide (l.mode≠0)||decide (l.calls=[])))=true:=by
   simp_all
  unfold qd3;rw[this];rfl
 by_cases m2:l.mode=0
 .by_cases m3:(0:Int)<l.calls.length
  .have hne:l.calls≠[]:=by grind
   have hw:qd3 l=false:=by simp[qd3,m2,hne]
   simp only[↓vS,vT,simprocAttr,m1,m2,m3];simp[vZ,hw]
  .have hz:l.calls=[]:=by simp_all
   rw[tail (.inr hz)];simp only[↓vS,vT,simprocAttr,m1,m2,m3];refine qwo h1 h2 l hl (Wk.mk _ _ [0] ?_ ?_ ?_ rfl)
   .simp[vw]
   .simp[vw,qc5,m2]
   .simp
 .rw[tail (.inl m2)];simp only[↓vS,vT,simprocAttr,m1,m2];refine qwo h1 h2 l hl (Wk.mk _ _ [0] ?_ ?_ ?_ rfl)
  .simp[vw]
  .simp[vw,qc5]
  .simp
def qJM(P:Program)(f:Nat):Prop:=∀l:GList,l.calls.length<=100000->qa P f [.agg (qc5 l)] (.b (qd3 l))




end Go.Kc
end
section
namespace Go.Kc
variable (E:List UInt8->List (List UInt8)×Int)
end Go.Kc
end
section
namespace Go.Kc
theorem qrB:∀a:List UInt8,ltS a a=false
 | []=>rfl
 | c::x=>by rw[qpw,if_neg (UInt8.lt_irrefl c),if_pos rfl];exact qrB x
theorem qm5:∀{a b c:List UInt8},ltS a b=true->ltS b c=true->ltS a c=true
 | _,[],[],_,h2=>by omega
 | _,_::_,[],_,h2=>by simp_all[qpx]
 | [],_,_::_,_,_=>rfl
 | _::_,[],_::_,h1,_=>by simp_all[qpx]
 | a::x,b::y,c::z,h1,h2=>by
  rw[qpw]at h1 h2 ⊢;simp only[UInt8.lt_iff_toNat_lt,<- UInt8.toNat_inj]at h1 h2 ⊢
  by_cases e1:a.toNat<b.toNat
  .grind
  .rw[if_neg e1]at h1;split at h1
   .rename_i e3
    by_cases e2:b.toNat<c.toNat
    .rw[if_pos (by omega)]
    .rw[if_neg e2]at h2;split at h2
     .rw[if_neg (by omega),if_pos (by omega)];exact qm5 h1 h2
     .cases h2
   simp_all
def qDl{a b:List UInt8}(h:ltS a b=true):a≠b:=by
 grind[qrB]
def Up(l:List GCall):Prop:=l.Pairwise λa b=>ltS a.name b.name=true
def qmg:∀(o:Option GCall) (l:List GCall),qbX o l=true↔((∀c ∈ l,okC c=true)/\Up l/\∀b,o=some b->∀c ∈ l,ltS b.name c.name=true)
 | o,[]=>by simp[qbX,Up]
 | o,c::l=>by
  have ih:=qmg (some c) l;simp only[qbX,zzB,ih,Up,List.pairwise_cons,List.mem_cons,forall_eq_or_imp];constructor
  .grind[qm5]
  .rintro⟨⟨h1,h3⟩,⟨h5,h4⟩,h6⟩;refine⟨⟨h1,?_⟩,h3,h4,?_⟩
   .cases o with
    | none=>rfl
    | some b=>exact(h6 b rfl).1
   simp_all
def qwn(l:GList):qd3 l=true↔(l.mode<=2/\(l.mode≠0\/l.calls=[]))/\(∀c ∈ l.calls,okC c=true)/\Up l.calls:=by
 unfold qd3;rw[zzB,zzB,zzO,decide_eq_true_eq,decide_eq_true_eq,decide_eq_true_eq,qmg];simp
end Go.Kc
end
section
namespace Go.Kc
variable (E:List UInt8->List (List UInt8)×Int)
variable {E}
end Go.Kc
end
section
namespace Go.Kc
variable {P:Program} {f:Nat}



def qlW(a:Asg)(n:GNote):GNote:=⟨a.file,a.line,n.err,n.text⟩




def Rng(l:List GCall):Prop:=∀c ∈ l,0<=c.act/\c.act<=4294967295




def qmy(x:Int):List Int->Nat->Int
 | [],_=>-1
 | y::ys,j=>if x=y then(j:Int)else qmy x ys (j+1)




def qqI{k:IntKind}{L:List Int}{j:Nat}(h:j<L.length)(x:Int):(rI k L).take j++(AV.i k x::(rI k L).drop (j+1))=rI k (L.set j x):=by
 unfold rI;rw[List.set_eq_take_append_cons_drop,if_pos h,List.map_append,List.map_cons,List.map_take,List.map_drop]
def qbn:IFn:=⟨[.tmp 4],sq [.r [.m 4 (.k 0)],sq [.r [.n 6 0,.e 7 6,.m 8 (.k 0)],.blk 0 (.loop (sq [.r [.s 9 8 7],.cond (.t 9) (.skip) (.exit 0),.blk 1 (sq [.r [.n 10 8,.n 5 10],.r [.n 11 1,.n 12 0,.n 13 5,.i 14 1 12 13,.d 15 14,.b 16 .eql 11 15],.cond (.t 16) (sq [.r [.n 17 5,.n 4 17],.ret]) (.skip)]),.r [.a 18 8 1,.n 8 18]]))],.r [.q 4 (.mov (.c (.j (-1))))],.ret]⟩
def qFu(hc:qc P f qbn=true)(xs:List Int)(x:Int)(hl:xs.length<=qi):qa P f [.fz xs.length (rI .i64 xs),.j x] (.j (qmy x xs 0)):=by
 refine qa.mk hc (by simp[qt,clo,qh]) ?_;simp only[qbn,vI,simprocAttr];simp only[↓vS,vT,simprocAttr];refine SL.loop (α:=Nat) (λj=>[(0,.fz xs.length (rI .i64 xs)),(1,.j x),(7,.j xs.length),(8,.j j)]) (λ_=>[]) (λj=>j<=xs.length/\qmy x xs 0=qmy x (xs.drop j) j) (λj=>xs.length-j) 0 [] ?_ ?_ ?_ rfl ?_ ?_
 .simp[vw,qh]
 .trivial
 .simp
 .simp
 rintro j ⟨hj,hI⟩ G ih;simp only[vI,simprocAttr]
 by_cases hlt:j<xs.length
 .have hx:xs[j]?=some xs[j]:=by simp_all
  have hw:IntKind.wrap .i64 ((j:Int)+1)=(j:Int)+1:=qp (by omega) (by have:=hl;simp only[qi]at this;omega)
  rw[List.drop_eq_getElem_cons hlt,qmy]at hI;simp only[↓vS,vT,simprocAttr,hlt,zzU,qaW,hx,Option.map_some,hw];split
  .rename_i he;simp only[he,vZ,if_true]at hI ⊢
   grind
  .rename_i he;rw[if_neg he]at hI;refine ih (j+1) ⟨by omega,hI⟩ (by omega) _ _ (Wk.mk _ _ [] ?_ ?_ ?_ rfl)
   .simp[vw,qh]
   .trivial
   .simp
 .simp only[↓vS,vT,simprocAttr,hlt,vZ];rw[List.drop_eq_nil_of_le (by omega)]at hI;simp[hI,qmy]
def qph(x:Int):∀(l:List Int) (j:Nat),decide (0<=qmy x l j)=decide (x ∈ l)
 | [],j=>by simp[qmy]
 | y::l,j=>by
  rw[qmy]
  by_cases h:x=y
  .simp[h]
  .rw[if_neg h,qph x l (j+1)];simp[h]
def qay(a:Nat):IFn:=⟨[.tmp 4],sq [.r [.m 4 .F],.r [.n 5 0,.n 6 1,.l 7 a [.t 5,.t 6],.w 8 .geq 7 0,.n 4 8],.ret]⟩
def qyO{g:Nat}(hc:qc P f (qay g)=true)(hg:∀(xs:List Int) (x:Int),xs.length<=qi->qa P g [.fz xs.length (rI .i64 xs),.j x] (.j (qmy x xs 0)))(xs:List Int)(x:Int)(hl:xs.length<=qi):qa P f [.fz xs.length (rI .i64 xs),.j x] (.b (decide (x ∈ xs))):=by
 refine qa.mk hc (by simp[qt,clo,qh]) ?_;simp only[qay,vI,simprocAttr];simp only[↓vS,vT,simprocAttr];refine(hg xs x hl).sc ?_;simp only[↓vS,vT,simprocAttr];simp[vZ,<- qph x xs 0]
def inA(l:List Int)(x:Int):Bool:=decide (l=[])||decide (x ∈ l)
def qlD(a:Nat):IFn:=⟨[.tmp 4],sq [.r [.m 4 .F],.r [.n 5 0,.e 6 5,.w 7 .eql 6 0,.n 8 7,.z 9 0 8,.z 10 1 8,⟨(some 11),.callF a [.t 9,.t 10],(some (8,false))⟩,.o 12 8 11,.n 4 12],.ret]⟩
def qIm{g:Nat}(hc:qc P f (qlD g)=true)(hg:∀(xs:List Int) (x:Int),xs.length<=qi->qa P g [.fz xs.length (rI .i64 xs),.j x] (.b (decide (x ∈ xs))))(xs:List Int)(x:Int)(hl:xs.length<=qi):qa P f [.fz xs.length (rI .i64 xs),.j x] (.b (inA xs x)):=by
 refine qa.mk hc (by simp[qt,clo,qh]) ?_;simp only[qlD,vI,simprocAttr]
 by_cases h:xs.length=0
 .have h':((xs.length:Int)=0)=True:=eq_true (by omega);have hn:xs=[]:=by simp_all
  simp only[↓vS,vT,simprocAttr,h'];simp[vZ,inA,hn]
 .have h':((xs.length:Int)=0)=False:=eq_false (by omega);have hn:xs≠[]:=by simp_all
  simp only[↓vS,vT,simprocAttr,h'];refine(hg xs x hl).sc ?_;simp only[↓vS,vT,simprocAttr];simp[vZ,inA,hn]
def qhM(a:Int):List UInt8:=if a<0\/6<=a then []else(zH.getD a.toNat ([],0)).1
def qi0(a:Nat):IFn:=⟨[.tmp 2],sq [.r [.m 2 (.c (.s []))],sq [.r [.n 3 0,.w 4 .lss 3 0,.n 5 4,.z 6 0 5,.g 7 (.bin .geq (.t 6) (.k 6)) 5 false,.o 8 5 7],.cond (.t 8) (sq [.r [.m 2 (.c (.s []))],.ret]) (.skip)],.r [.l 9 a [],.n 10 0,.q 11 (.idxA 6 2 true (.t 9) (.t 10)),.q 12 (.fld 0 none (.t 11)),.n 2 12],.ret]⟩
def qGm{g:Nat}(hc:qc P f (qi0 g)=true)(hg:qa P g [] (.agg (zH.flatMap (qa1 .u32))))(a:Int):qa P f [.j a] (.s (qhM a)):=by
 refine qa.mk hc rfl ?_;simp only[qi0,vI,simprocAttr]
 by_cases h1:a<0
 .simp only[↓vS,vT,simprocAttr,h1];simp[vZ,qhM,h1]
 by_cases h2:6<=a
 .simp only[↓vS,vT,simprocAttr,h1,h2];simp[vZ,qhM,h2]
 simp only[↓vS,vT,simprocAttr,h1,h2];refine hg.sc ?_;have h3:a=0\/a=1\/a=2\/a=3\/a=4\/a=5:=by omega
 rcases h3 with rfl|rfl|rfl|rfl|rfl|rfl <;>
 .simp only[↓vS,vT,simprocAttr,zH,qa1,List.flatMap_cons,List.flatMap_nil];simp[vZ,qhM,zH]
def qoF(a:Int):(qhM a≠[])↔(0<=a/\a<6):=by
 unfold qhM;constructor
 .simp_all
 .intro h;rw[if_neg (by omega)];have h3:a=0\/a=1\/a=2\/a=3\/a=4\/a=5:=by omega
  rcases h3 with rfl|rfl|rfl|rfl|rfl|rfl<;>decide
def z8(is:Int->Bool):Option Int->List Int->Bool
 | _,[]=>true
 | o,x::l=>is x&&(o.elim true λb=>decide (b<x))&&z8 is (some x) l
def qc9:IFn:=⟨[.tmp 4],sq [.r [.m 4 .F],sq [.r [.n 7 0,.e 8 7,.m 9 (.k 0)],.blk 0 (.loop (sq [.r [.s 10 9 8],.cond (.t 10) (.skip) (.exit 0),.blk 1 (sq [.r [.n 11 9,.i 12 1 7 9,.d 13 12,.n 5 11,.n 6 13],.r [.n 14 1,.n 15 6,⟨(some 16),.callV (.t 14) [.t 15],none⟩,.q 17 (.un .not (.t 16)),.n 18 17,.z 19 5 18,.g 20 (.bin .gtr (.t 19) (.k 0)) 18 false,.z 21 20 18,.y 22 0 21,.y 23 5 21,.g 24 (.bin .sub (.t 23) (.k 1)) 21 true,.g 25 (.iAddrS 1 (.t 22) (.t 24)) 21 true,.j 26 25 21 true,.y 27 6 21,.g 28 (.bin .geq (.t 26) (.t 27)) 21 true,.g 29 (.pick (.t 21) (.t 28) .F) 18 false,.o 30 18 29],.cond (.t 30) (sq [.r [.m 4 .F],.ret]) (.skip)]),.r [.a 31 9 1,.n 9 31]]))],.r [.m 4 .T],.ret]⟩
def qFK(hc:qc P f qc9=true)(xs:List Int)(g:Nat)(is:Int->Bool)(hg:∀x,qa P g [.j x] (.b (is x)))(hl:xs.length<=100000):qa P f [.fz xs.length (rI .i64 xs),.fn g [] []] (.b (z8 is none xs)):=by
 refine qa.mk hc (by simp[qt,clo,qh]) ?_;simp only[qc9,vI,simprocAttr];simp only[↓vS,vT,simprocAttr]
 refine SL.loop (α:=Nat) (λj=>[(0,.fz xs.length (rI .i64 xs)),(1,.fn g [] []),(7,.fz xs.length (rI .i64 xs)),(8,.j xs.length),(9,.j j)]) (λ_=>[])
  (λj=>j<=xs.length/\z8 is none xs=z8 is (if j=0 then none else xs[j-1]?) (xs.drop j)) (λj=>xs.length-j) 0 [] ?_ ?_ ?_ rfl ?_ ?_
 .simp[vw,qh]
 .trivial
 .simp
 .simp_all
 rintro j ⟨hj,hI⟩ G ih;simp only[vI,simprocAttr]
 by_cases hlt:j<xs.length
 .have hx:xs[j]?=some xs[j]:=by simp_all
  have hw:IntKind.wrap .i64 ((j:Int)+1)=((j+1:Nat):Int):=by rw[qp (by omega) (by omega)];omega
  rw[List.drop_eq_getElem_cons hlt,z8]at hI;generalize hc0:xs[j]=c at hI hx;simp only[↓vS,vT,simprocAttr,hlt,zzU,qaW,hx,Option.map_some];refine(hg c).sc ?_;cases hk:is c with
  | false =>
   have hw:z8 is none xs=false:=by rw[hI];grind
   simp only[↓vS,vT,simprocAttr];simp[vZ,hw]
  | true =>
   by_cases h0:j=0
   .subst h0;have hn:¬(0:Int)<((0:Nat):Int):=by decide
    simp only[↓vS,vT,simprocAttr,hn,hw];refine ih 1 ⟨by omega,?_⟩ (by omega) _ _ (Wk.mk _ _ [] ?_ ?_ ?_ rfl)
    .rw[hI,hk];grind
    .simp[vw,qh]
     simp_all
    .trivial
    .simp
   .have hp:(0:Int)<(j:Int):=by omega
    have hpl:j-1<xs.length:=by omega
    have hy:xs[j-1]?=some xs[j-1]:=by simp_all
    have hw2:IntKind.wrap .i64 ((j:Int)-1)=((j-1:Nat):Int):=by rw[qp (by omega) (by omega)];omega
    rw[if_neg h0,hy]at hI
    by_cases hlt2:c<=xs[j-1]
    .have hwf:z8 is none xs=false:=by rw[hI];grind
     simp only[↓vS,vT,simprocAttr,hp,hw2,hpl,hy,zzU,qaW,Option.map_some,hlt2];simp[vZ,hwf]
    .simp only[↓vS,vT,simprocAttr,hp,hw2,hpl,hy,zzU,qaW,Option.map_some,hlt2,hw];refine ih (j+1) ⟨by omega,?_⟩ (by omega) _ _ (Wk.mk _ _ [] ?_ ?_ ?_ rfl)
     .rw[hI,hk];simp_all
     .simp[vw,qh]
     .trivial
     .simp
 .rw[List.drop_of_length_le (by omega),z8]at hI;simp only[↓vS,vT,simprocAttr,hlt];simp[vZ,hI]
def qbL:IFn:=⟨[.tmp 4],sq [.r [.m 4 .F],sq [.r [.n 7 0,.e 8 7,.m 9 (.k 0)],.blk 0 (.loop (sq [.r [.s 10 9 8],.cond (.t 10) (.skip) (.exit 0),.blk 1 (sq [.r [.n 11 9,.i 12 1 7 9,.d 13 12,.n 5 11,.n 6 13],.r [.n 14 1,.n 15 6,⟨(some 16),.callV (.t 14) [.t 15],none⟩,.q 17 (.un .not (.t 16)),.n 18 17,.z 19 5 18,.g 20 (.bin .gtr (.t 19) (.k 0)) 18 false,.z 21 20 18,.y 22 0 21,.y 23 5 21,.g 24 (.bin .sub (.t 23) (.k 1)) 21 true,.g 25 (.iAddrS 1 (.t 22) (.t 24)) 21 true,.j 26 25 21 true,.y 27 6 21,.g 28 (.bin .geq (.t 26) (.t 27)) 21 true,.g 29 (.pick (.t 21) (.t 28) .F) 18 false,.o 30 18 29],.cond (.t 30) (sq [.r [.m 4 .F],.ret]) (.skip)]),.r [.a 31 9 1,.n 9 31]]))],.r [.m 4 .T],.ret]⟩
def qFL(hc:qc P f qbL=true)(xs:List Int)(g:Nat)(is:Int->Bool)(hg:∀x,qa P g [.w x] (.b (is x)))(hl:xs.length<=100000):qa P f [.fz xs.length (rI .u32 xs),.fn g [] []] (.b (z8 is none xs)):=by
 refine qa.mk hc (by simp[qt,clo,qh]) ?_;simp only[qbL,vI,simprocAttr];simp only[↓vS,vT,simprocAttr]
 refine SL.loop (α:=Nat) (λj=>[(0,.fz xs.length (rI .u32 xs)),(1,.fn g [] []),(7,.fz xs.length (rI .u32 xs)),(8,.j xs.length),(9,.j j)]) (λ_=>[])
  (λj=>j<=xs.length/\z8 is none xs=z8 is (if j=0 then none else xs[j-1]?) (xs.drop j)) (λj=>xs.length-j) 0 [] ?_ ?_ ?_ rfl ?_ ?_
 .simp[vw,qh]
 .trivial
 .simp
 .simp_all
 rintro j ⟨hj,hI⟩ G ih;simp only[vI,simprocAttr]
 by_cases hlt:j<xs.length
 .have hx:xs[j]?=some xs[j]:=by simp_all
  have hw:IntKind.wrap .i64 ((j:Int)+1)=((j+1:Nat):Int):=by rw[qp (by omega) (by omega)];omega
  rw[List.drop_eq_getElem_cons hlt,z8]at hI;generalize hc0:xs[j]=c at hI hx;simp only[↓vS,vT,simprocAttr,hlt,zzU,qaW,hx,Option.map_some];refine(hg c).sc ?_;cases hk:is c with
  | false =>
   have hw:z8 is none xs=false:=by rw[hI];grind
   simp only[↓vS,vT,simprocAttr];simp[vZ,hw]
  | true =>
   by_cases h0:j=0
   .subst h0;have hn:¬(0:Int)<((0:Nat):Int):=by decide
    simp only[↓vS,vT,simprocAttr,hn,hw];refine ih 1 ⟨by omega,?_⟩ (by omega) _ _ (Wk.mk _ _ [] ?_ ?_ ?_ rfl)
    .rw[hI,hk];grind
    .simp[vw,qh]
     simp_all
    .trivial
    .simp
   .have hp:(0:Int)<(j:Int):=by omega
    have hpl:j-1<xs.length:=by omega
    have hy:xs[j-1]?=some xs[j-1]:=by simp_all
    have hw2:IntKind.wrap .i64 ((j:Int)-1)=((j-1:Nat):Int):=by rw[qp (by omega) (by omega)];omega
    rw[if_neg h0,hy]at hI
    by_cases hlt2:c<=xs[j-1]
    .have hwf:z8 is none xs=false:=by rw[hI];grind
     simp only[↓vS,vT,simprocAttr,hp,hw2,hpl,hy,zzU,qaW,Option.map_some,hlt2];simp[vZ,hwf]
    .simp only[↓vS,vT,simprocAttr,hp,hw2,hpl,hy,zzU,qaW,Option.map_some,hlt2,hw];refine ih (j+1) ⟨by omega,?_⟩ (by omega) _ _ (Wk.mk _ _ [] ?_ ?_ ?_ rfl)
     .rw[hI,hk];simp_all
     .simp[vw,qh]
     .trivial
     .simp
 .rw[List.drop_of_length_le (by omega),z8]at hI;simp only[↓vS,vT,simprocAttr,hlt];simp[vZ,hI]
def qbP(n:Int):List (List UInt8×Int)->List UInt8
 | []=>[]
 | p::l=>if p.2=n then p.1 else qbP n l
def qdN:IFn:=⟨[.tmp 4],sq [.r [.m 4 (.c (.s []))],sq [.r [.n 7 0,.e 8 7,.m 9 (.k 0)],.blk 0 (.loop (sq [.r [.s 10 9 8],.cond (.t 10) (.skip) (.exit 0),.blk 1 (sq [.r [.i 11 2 7 9,.v 12 2 11,.q 6 (.alloc [.s [],.w 0]),.u (.store 2 (.t 6) (.t 12))],.r [.f 13 1 6,.d 14 13,.n 15 1,.b 16 .eql 14 15],.cond (.t 16) (sq [.r [.f 17 0 6,.d 18 17,.n 4 18],.ret]) (.skip)]),.r [.a 19 9 1,.n 9 19]]))],.r [.m 4 (.c (.s []))],.ret]⟩
def qIM(hc:qc P f qdN=true)(l:List (List UInt8×Int))(n:Int)(hl:l.length<=qi):qa P f [.fz l.length (l.flatMap (qa1 .u32)),.w n] (.s (qbP n l)):=by
 refine qa.mk hc (by simp[qt,clo]) ?_;simp only[qdN,vI,simprocAttr];simp only[↓vS,vT,simprocAttr];refine SL.loop (α:=Nat) (λj=>[(1,.w n),(7,.fz l.length (l.flatMap (qa1 .u32))),(8,.j l.length),(9,.j j)]) (λ_=>[]) (λj=>j<=l.length/\qbP n l=qbP n (l.drop j)) (λj=>l.length-j) 0 [] ?_ ?_ ?_ rfl ?_ ?_
 .simp[vw]
 .trivial
 .simp
 .simp
 rintro j ⟨hj,hI⟩ G ih;simp only[vI,simprocAttr]
 by_cases hlt:j<l.length
 .have hx:l[j]?=some l[j]:=by simp_all
  have hw:IntKind.wrap .i64 ((j:Int)+1)=(j:Int)+1:=qp (by omega) (by have:=hl;simp only[qi]at this;omega)
  have he:=qS (f:=qa1 .u32) (m:=2) ql8 hx;have hb:j*2+2<=(l.flatMap (qa1 .u32)).length:=by rw[qW (m:=2) ql8];omega
  rw[List.drop_eq_getElem_cons hlt,qbP]at hI;simp only[↓vS,vT,simprocAttr,hlt,hb,he,qa1,hw];split
  .rename_i hs;rw[hI,if_pos hs];simp only[vZ,and_self,true_and]
  .rename_i hs;rw[if_neg hs]at hI;refine ih (j+1) ⟨by omega,hI⟩ (by omega) _ _ (Wk.mk _ _ [] ?_ ?_ ?_ rfl)
   .simp[vw]
   .trivial
   .simp
 .simp only[↓vS,vT,simprocAttr,hlt,vZ];rw[List.drop_eq_nil_of_le (by omega),qbP]at hI;rw[hI]
def qc8(a b:Nat):IFn:=⟨[.tmp 2],sq [.r [.m 2 (.c (.s []))],.r [.l 4 a [],.q 3 (.alloc [.s [],.w 0,.s [],.w 0,.s [],.w 0,.s [],.w 0,.s [],.w 0,.s [],.w 0,.s [],.w 0,.s [],.w 0]),.u (.store 16 (.t 3) (.t 4))],.r [.q 5 (.slcA 8 2 (.t 3) none none none),.n 6 0,.l 7 b [.t 5,.t 6],.n 2 7],.ret]⟩
def qCN{g1 g2:Nat}(hc:qc P f (qc8 g1 g2)=true)(h1:qa P g1 [] (.agg (zT.flatMap (qa1 .u32))))(h2:∀(l:List (List UInt8×Int)) (n:Int),l.length<=qi->qa P g2 [.fz l.length (l.flatMap (qa1 .u32)),.w n] (.s (qbP n l)))(n:Int):qa P f [.w n] (.s (qbP n zT)):=by
 refine qa.mk hc rfl ?_;simp only[qc8,vI,simprocAttr];simp only[↓vS,vT,simprocAttr];refine h1.sc ?_;simp only[↓vS,vT,simprocAttr,zT,qa1,List.flatMap_cons,List.flatMap_nil];refine(h2 zT n (by decide)).lend (vs':=[.fz 8 (zT.flatMap (qa1 .u32)),.w n]) ?_ rfl ?_
 .refine .cons _ _ _ _ (.cut 2 rfl (zzL _) ?_) (.cons _ _ _ _ (.i _ _) .nil);simp[vw,zT,qa1]
 simp only[↓vS,vT,simprocAttr,vZ,and_self,zT]
def qgf:IFn:=⟨[.tmp 2],sq [.r [.q 1 (.box (.t 0)),.m 2 .F],.r [.f 3 1 1,.d 4 3,.q 5 (.bin .neq (.t 4) (.c (.w 0))),.n 2 5],.ret]⟩
def qJw(hc:qc P f qgf=true)(c:GCall):qa P f [.agg (qe9 c)] (.b (decide (c.act≠0))):=by
 refine qa.mk hc rfl ?_;simp only[qgf,qe9,vI,simprocAttr]
 by_cases h:c.act=0 <;>
 .simp only[↓vS,vT,simprocAttr,h];simp[vZ,h]
def qgg(a:Nat):IFn:=⟨[.tmp 2],sq [.r [.m 2 .F],.r [.n 3 0,.l 4 a [.t 3],.q 5 (.bin .neq (.t 4) (.c (.s []))),.n 2 5],.ret]⟩
def qJx{g:Nat}(hc:qc P f (qgg g)=true)(hg:∀a,qa P g [.j a] (.s (qhM a)))(a:Int):qa P f [.j a] (.b (decide (0<=a)&&decide (a<6))):=by
 refine qa.mk hc rfl ?_;simp only[qgg,vI,simprocAttr];simp only[↓vS,vT,simprocAttr];refine(hg a).sc ?_;have h:=qoF a
 by_cases h':qhM a=[]
 .have h2:(decide (0<=a)&&decide (a<6))=false:=by
   have:=mt h.2 (by simpa using h')
   simp_all
  simp only[↓vS,vT,simprocAttr,h'];simp[vZ,h2]
 .have h2:=h.1 h';simp only[↓vS,vT,simprocAttr,h'];simp[vZ,h2]
def qnV(n:Int):Bool:=decide (qbP n zT≠[])
def qgh(a:Nat):IFn:=⟨[.tmp 2],sq [.r [.m 2 .F],.r [.n 3 0,.l 4 a [.t 3],.q 5 (.bin .neq (.t 4) (.c (.s []))),.n 2 5],.ret]⟩
def qJy{g:Nat}(hc:qc P f (qgh g)=true)(hg:∀a,qa P g [.w a] (.s (qbP a zT)))(a:Int):qa P f [.w a] (.b (qnV a)):=by
 refine qa.mk hc rfl ?_;simp only[qgh,vI,simprocAttr];simp only[↓vS,vT,simprocAttr];refine(hg a).sc ?_;unfold qnV;generalize qbP a zT=s
 by_cases h':s=[] <;>
 .simp only[↓vS,vT,simprocAttr,h'];simp[vZ,h']
def xf(a:Nat):IFn:=⟨[.tmp 4],sq [.r [.m 4 .F],.r [.n 5 0,.n 6 1,.l 7 a [.t 5,.t 6],.w 8 .geq 7 0,.n 4 8],.ret]⟩
def qlC{α:Type}(p:α->Bool):∀(l:List α) (j:Nat),decide (0<=xq p l j)=l.any p
 | [],j=>by simp[xq]
 | x::l,j=>by
  rw[xq]
  by_cases h:p x=true
  .simp[h]
  .rw[if_neg h,qlC p l (j+1)];simp[h]
def qu4{g:Nat}(hc:qc P f (xf g)=true)(h:qfH 2 P g)(l:List GCall)(k:Nat)(p:GCall->Bool)(hk:∀c,qa P k [.agg (qe9 c)] (.b (p c)))(hl:l.length<=qi):qa P f [.fz l.length (rC l),.fn k [] []] (.b (l.any p)):=by
 refine qa.mk hc (by simp[qt,clo,qn]) ?_;simp only[xf,vI,simprocAttr];simp only[↓vS,vT,simprocAttr];refine(h qe9 p k [] [] l qhn rfl rfl hl λx _=>hk x).sc ?_
 simp only[↓vS,vT,simprocAttr];simp[vZ,<- qlC p l 0]
def qcf(a b c d e g h i:Nat):ICode:=sq [.reg true [.n 46 3,.n 47 46,.y 48 4 47,.p 49 47 48,.n 50 49,.y 51 5 50,.p 52 50 51,.n 53 52,.y 54 6 53,.p 55 53 54,.n 56 55,.y 57 7 56,.p 58 56 57,.n 59 58,.h 60 1 1 59 true,.g 61 (.loadN 2 (.t 60)) 59 true,⟨(some 62),.callF h [.t 61],(some (59,true))⟩,.p 63 59 62,.n 64 63,.h 65 4 1 64 true,.g 66 (.loadN 2 (.t 65)) 64 true,⟨(some 67),.callF h [.t 66],(some (64,true))⟩,.p 68 64 67,.n 69 68,.h 70 8 1 69 true,.j 71 70 69 true,⟨(some 72),.callF i [],(some (69,true))⟩,.g 73 (.bin .andNot (.t 71) (.t 72)) 69 true,.g 74 (.bin .eql (.t 73) (.c (.x 0))) 69 true,.p 75 69 74,.n 2 75],.ret]
def qaL(a b c d e g h i:Nat):ICode:=sq [.r [.f 40 0 1,.d 41 40,.l 42 c [.t 41,(.c (.fn d [] []))],.n 6 42],.r [.f 43 6 1,.d 44 43,.l 45 e [.t 44,(.c (.fn g [] []))],.n 7 45],.cut (qcf a b c d e g h i)]
def qaK(a b c d e g h i:Nat):ICode:=sq [.r [.f 26 7 1,.d 27 26,.q 28 (.bin .leq (.t 27) (.c (.y 2))),.n 29 28,.h 30 7 1 29 true,.j 31 30 29 true,.g 32 (.bin .neq (.t 31) (.c (.y 0))) 29 true,.y 33 32 29,.h 34 6 1 33 false,.j 35 34 33 false,.g 36 (.len false (.t 35)) 33 false,.g 37 (.bin .eql (.t 36) (.k 0)) 33 false,.g 38 (.pick (.t 33) .T (.t 37)) 29 true,.p 39 29 38,.n 5 39],.cut (qaL a b c d e g h i)]
def qh2(a b c d e g h i:Nat):IFn:=⟨[.tmp 2],sq [.r [.q 1 (.box (.t 0)),.m 2 .F],.r [.f 8 4 1,.f 9 1 8,.d 10 9,.l 11 a [.t 10,(.c (.fn b [] []))],.q 12 (.un .not (.t 11)),.n 3 12],.r [.f 13 3 1,.d 14 13,.q 15 (.bin .eql (.t 14) (.c (.w 2147483648))),.n 16 15,.h 17 3 1 16 false,.j 18 17 16 false,.g 19 (.bin .geq (.t 18) (.c (.w 327680))) 16 false,.z 20 19 16,.h 21 3 1 20 true,.j 22 21 20 true,.g 23 (.bin .leq (.t 22) (.c (.w 331775))) 20 true,.g 24 (.pick (.t 20) (.t 23) .F) 16 false,.o 25 16 24,.n 4 25],.cut (qaK a b c d e g h i)]⟩
noncomputable def qde(p:Pol):Bool:=qd3 p.filter&&qd3 p.log&&decide (qeH .u64 p.spaces 2114060416=0)
def qzD{g1 g2 g3 g4 g5 g6 g7 g8:Nat}(h7:∀l:GList,l.calls.length<=100000->qa P g7 [.agg (qc5 l)] (.b (qd3 l)))
  (h8:qa P g8 [] (.x 2114060416)) (p:Pol) (hp:PolOk p) (o d m a fm:Bool) {t':Tr AV} {h':Hp} (hw:Wk 0 t' h' (mkT [(1,.ptr 0 0),(2,.b false),(3,.b o),(4,.b d),(5,.b m),(6,.b a),(7,.b fm)]) (mkH 0 [.v (qx p)])) :
  S P 0 (qcf g1 g2 g3 g4 g5 g6 g7 g8) (xu [.tmp 2] λv' h'=>Frz h' v' (.b (o&&d&&m&&a&&fm&&qde p))) t' h':=by
 have hcc:=hp.c;have hl:=hp.l;refine S.weak hw (qk ?_);simp only[qcf,qx,vI,simprocAttr];simp only[↓vS,vT,simprocAttr];refine zB ?_;cases o
 .simp only[↓vS,vT,simprocAttr];simp[vZ]
 cases d
 .simp only[↓vS,vT,simprocAttr];simp[vZ]
 cases m
 .simp only[↓vS,vT,simprocAttr];simp[vZ]
 cases a
 .simp only[↓vS,vT,simprocAttr];simp[vZ]
 cases fm
 .simp only[↓vS,vT,simprocAttr];simp[vZ]
 simp only[↓vS,vT,simprocAttr];refine(h7 p.filter (by omega)).pc ?_;cases hF:qd3 p.filter
 .simp only[↓vS,vT,simprocAttr];simp[vZ,qde,hF]
 simp only[↓vS,vT,simprocAttr];refine(h7 p.log (by omega)).pc ?_;cases hL:qd3 p.log
 .simp only[↓vS,vT,simprocAttr];simp[vZ,qde,hF,hL]
 simp only[↓vS,vT,simprocAttr];refine h8.pc ?_;simp only[↓vS,vT,simprocAttr];simp[vZ,qde,hF,hL]
def qzC{g1 g2 g3 g4 g5 g6 g7 g8:Nat}(h3:∀(xs:List Int) (g:Nat) (is:Int->Bool),(∀x,qa P g [.j x] (.b (is x)))->xs.length<=100000->qa P g3 [.fz xs.length (rI .i64 xs),.fn g [] []] (.b (z8 is none xs)))
  (h4:∀a,qa P g4 [.j a] (.b (decide (0<=a)&&decide (a<6))))
  (h5:∀(xs:List Int) (g:Nat) (is:Int->Bool),(∀x,qa P g [.w x] (.b (is x)))->xs.length<=100000->qa P g5 [.fz xs.length (rI .u32 xs),.fn g [] []] (.b (z8 is none xs)))
  (h6:∀a,qa P g6 [.w a] (.b (qnV a)))
  (h7:∀l:GList,l.calls.length<=100000->qa P g7 [.agg (qc5 l)] (.b (qd3 l)))
  (h8:qa P g8 [] (.x 2114060416)) (p:Pol) (hp:PolOk p) (o d m:Bool) {t':Tr AV} {h':Hp} (hw:Wk 0 t' h' (mkT [(1,.ptr 0 0),(2,.b false),(3,.b o),(4,.b d),(5,.b m)]) (mkH 0 [.v (qx p)])) :
  S P 0 (qaL g1 g2 g3 g4 g5 g6 g7 g8) (xu [.tmp 2] λv' h'=>Frz h' v' (.b (o&&d&&m&&z8 (λa=>decide (0<=a)&&decide (a<6)) none p.arches&&z8 qnV none p.fams&&qde p))) t' h':=by
 have ha:=hp.a;have hf:=hp.f;refine S.weak hw (qk ?_);simp only[qaL,qx,vI,simprocAttr];simp only[↓vS,vT,simprocAttr];refine(h3 p.arches g4 _ h4 (by omega)).sc ?_;simp only[↓vS,vT,simprocAttr];refine(h5 p.fams g6 _ h6 (by omega)).sc ?_;simp only[↓vS,vT,simprocAttr];refine qzD h7 h8 p hp o d m _ _ (Wk.mk _ _ [0] ?_ ?_ ?_ rfl)
 .simp[vw]
 .simp[vw,qx,qh,qn]
 .simp
def qks(p:Pol):Bool:=decide (p.fmode<=2)&&(decide (p.fmode≠0)||decide (p.fams=[]))
def qzB{g1 g2 g3 g4 g5 g6 g7 g8:Nat}(h3:∀(xs:List Int) (g:Nat) (is:Int->Bool),(∀x,qa P g [.j x] (.b (is x)))->xs.length<=100000->qa P g3 [.fz xs.length (rI .i64 xs),.fn g [] []] (.b (z8 is none xs)))
  (h4:∀a,qa P g4 [.j a] (.b (decide (0<=a)&&decide (a<6))))
  (h5:∀(xs:List Int) (g:Nat) (is:Int->Bool),(∀x,qa P g [.w x] (.b (is x)))->xs.length<=100000->qa P g5 [.fz xs.length (rI .u32 xs),.fn g [] []] (.b (z8 is none xs)))
  (h6:∀a,qa P g6 [.w a] (.b (qnV a)))
  (h7:∀l:GList,l.calls.length<=100000->qa P g7 [.agg (qc5 l)] (.b (qd3 l)))
  (h8:qa P g8 [] (.x 2114060416)) (p:Pol) (hp:PolOk p) (o d:Bool) {t':Tr AV} {h':Hp} (hw:Wk 0 t' h' (mkT [(1,.ptr 0 0),(2,.b false),(3,.b o),(4,.b d)]) (mkH 0 [.v (qx p)])) :
  S P 0 (qaK g1 g2 g3 g4 g5 g6 g7 g8) (xu [.tmp 2] λv' h'=>Frz h' v' (.b (o&&d&&qks p&&z8 (λa=>decide (0<=a)&&decide (a<6)) none p.arches&&z8 qnV none p.fams&&qde p))) t' h':=by
 refine S.weak hw (qk ?_);simp only[qaK,qx,vI,simprocAttr]
 have go:∀m,m=qks p->∀{t':Tr AV} {h':Hp},Wk 0 t' h' (mkT [(1,.ptr 0 0),(2,.b false),(3,.b o),(4,.b d),(5,.b m)]) (mkH 0 [.v (qx p)])->S P 0 (qaL g1 g2 g3 g4 g5 g6 g7 g8) (xu [.tmp 2] λv' h'=>Frz h' v' (.b (o&&d&&qks p&&z8 (λa=>decide (0<=a)&&decide (a<6)) none p.arches&&z8 qnV none p.fams&&qde p))) t' h':=by
  rintro m rfl t' h' hw;exact qzC h3 h4 h5 h6 h7 h8 p hp o d _ hw
 by_cases m1:p.fmode<=2
 .by_cases m2:p.fmode=0
  .by_cases m3:p.fams=[]
   .have h0:(p.fams.length:Int)=0:=by rw[m3];rfl
    simp only[↓vS,vT,simprocAttr,m1,m2,h0];refine go true (by simp[qks,m1,m2,m3]) (Wk.mk _ _ [0] ?_ ?_ ?_ rfl)
    .simp[vw]
    .simp[vw,qx,qh,qn,m2]
    .simp
   .have h0:((p.fams.length:Int)=0)=False:=by simp_all
    simp only[↓vS,vT,simprocAttr,m1,m2,h0];refine go false (by simp[qks,m1,m2,m3]) (Wk.mk _ _ [0] ?_ ?_ ?_ rfl)
    .simp[vw]
    .simp[vw,qx,qh,qn,m2]
    .simp
  .simp only[↓vS,vT,simprocAttr,m1,m2];refine go true (by simp[qks,m1,m2]) (Wk.mk _ _ [0] ?_ ?_ ?_ rfl)
   .simp[vw]
   .simp[vw,qx,qh,qn]
   .simp
 .simp only[↓vS,vT,simprocAttr,m1];refine go false (by simp[qks,m1]) (Wk.mk _ _ [0] ?_ ?_ ?_ rfl)
  .simp[vw]
  .simp[vw,qx,qh,qn]
  .simp
def qmO(n:Int):Bool:=decide (n=2147483648)||(decide (327680<=n)&&decide (n<=331775))
noncomputable def qhK(p:Pol):Bool:=!(p.log.calls.any λc=>decide (c.act≠0))&&qmO p.deny&&qks p&&z8 (λa=>decide (0<=a)&&decide (a<6)) none p.arches&&z8 qnV none p.fams&&qde p
def qFD{g1 g2 g3 g4 g5 g6 g7 g8:Nat}(hc:qc P f (qh2 g1 g2 g3 g4 g5 g6 g7 g8)=true)
  (h1:∀(l:List GCall) (k:Nat) (p:GCall->Bool),(∀c,qa P k [.agg (qe9 c)] (.b (p c)))->l.length<=qi->qa P g1 [.fz l.length (rC l),.fn k [] []] (.b (l.any p)))
  (h2:∀c,qa P g2 [.agg (qe9 c)] (.b (decide (c.act≠0))))
  (h3:∀(xs:List Int) (g:Nat) (is:Int->Bool),(∀x,qa P g [.j x] (.b (is x)))->xs.length<=100000->qa P g3 [.fz xs.length (rI .i64 xs),.fn g [] []] (.b (z8 is none xs)))
  (h4:∀a,qa P g4 [.j a] (.b (decide (0<=a)&&decide (a<6))))
  (h5:∀(xs:List Int) (g:Nat) (is:Int->Bool),(∀x,qa P g [.w x] (.b (is x)))->xs.length<=100000->qa P g5 [.fz xs.length (rI .u32 xs),.fn g [] []] (.b (z8 is none xs)))
  (h6:∀a,qa P g6 [.w a] (.b (qnV a)))
  (h7:∀l:GList,l.calls.length<=100000->qa P g7 [.agg (qc5 l)] (.b (qd3 l)))
  (h8:qa P g8 [] (.x 2114060416)) (p:Pol) (hp:PolOk p):qa P f [.agg (qx p)] (.b (qhK p)):=by
 have hl:=hp.l;refine qa.mk hc rfl ?_
 have go:∀d,d=qmO p.deny->∀{t':Tr AV} {h':Hp},Wk 0 t' h' (mkT [(1,.ptr 0 0),(2,.b false),(3,.b (!(p.log.calls.any λc=>decide (c.act≠0)))),(4,.b d)]) (mkH 0 [.v (qx p)])->S P 0 (qaK g1 g2 g3 g4 g5 g6 g7 g8) (xu [.tmp 2] λv' h'=>Frz h' v' (.b (qhK p))) t' h':=by
  rintro d rfl t' h' hw;exact qzB h3 h4 h5 h6 h7 h8 p hp _ _ hw
 simp only[qh2,qx,vI,simprocAttr];simp only[↓vS,vT,simprocAttr];refine(h1 p.log.calls g2 _ h2 (by simp only[qi];omega)).sc ?_
 by_cases d1:p.deny=2147483648
 .simp only[↓vS,vT,simprocAttr,d1];refine go true (by simp[qmO,d1]) (Wk.mk _ _ [0] ?_ ?_ ?_ rfl)
  .simp[vw]
  .simp[vw,qx,qh,qn,d1]
  .simp
 by_cases d2:327680<=p.deny
 .by_cases d3:p.deny<=331775
  .simp only[↓vS,vT,simprocAttr,d1,d2,d3];refine go true (by simp[qmO,d1,d2,d3]) (Wk.mk _ _ [0] ?_ ?_ ?_ rfl)
   .simp[vw]
   .simp[vw,qx,qh,qn]
   .simp
  .simp only[↓vS,vT,simprocAttr,d1,d2,d3];refine go false (by simp[qmO,d1,d2,d3]) (Wk.mk _ _ [0] ?_ ?_ ?_ rfl)
   .simp[vw]
   .simp[vw,qx,qh,qn]
   .simp
 .simp only[↓vS,vT,simprocAttr,d1,d2];refine go false (by simp[qmO,d1,d2]) (Wk.mk _ _ [0] ?_ ?_ ?_ rfl)
  .simp[vw]
  .simp[vw,qx,qh,qn]
  .simp
structure PolR (p:Pol):Prop where
 fams:∀x ∈ p.fams,0<=x/\x<=4294967295
 deny:0<=p.deny/\p.deny<=4294967295
 spaces:0<=p.spaces/\p.spaces<18446744073709551616
 filter:Rng p.filter.calls
 log:Rng p.log.calls
section
variable {g1 g2 g3 g4:Nat}
end
structure GTest where
 arg:Int
 mask:Int
 val:Int
 act:Int
def jz(t:GTest):List AV:=[.j t.arg,.x t.mask,.x t.val,.w t.act]
def qdm(t:GTest):(jz t).length=4:=rfl
def rT(l:List GTest):List AV:=l.flatMap jz
structure GRule where
 nr:Int
 tests:List GTest
 act:Int
def zu(r:GRule):List AV:=[.w r.nr,.fz r.tests.length (rT r.tests),.w r.act]
def qb5(r:GRule):(zu r).length=3:=rfl
def rR(l:List GRule):List AV:=l.flatMap zu
structure GFil where
 arch:Int
 rules:List GRule
 dflt:Int
def zq(x:GFil):List AV:=[.j x.arch,.fz x.rules.length (rR x.rules),.w x.dflt]
section
variable {l m:List GTest} {j:Nat}
def qeZ:(rT l).length=l.length*4:=qW qdm l
def zX:qt (rT l)=true:=xP λ_=>rfl
def qxf:qD (rT l)=true:=qlk λ_=>rfl
def qr3{c:GTest}(h:l[j]?=some c):((rT l).drop (j*4)).take 4=jz c:=qS qdm h
def qxe{c:GTest}(h:l[j]?=some c){i:Nat}(hi:i<4):(rT l)[j*4+i]?=(jz c)[i]?:=qcz qdm h hi
def qqK:rT l++rT m=rT (l++m):=by simp[rT]
def qxd(h:j<l.length):j*4+4<=(rT l).length:=by rw[qeZ];omega
end
section
variable {l m:List GRule} {j:Nat}
def qhe:(rR l).length=l.length*3:=qW qb5 l
def qq:qt (rR l)=true:=xP λ_=>rfl
def qr0{c:GRule}(h:l[j]?=some c):((rR l).drop (j*3)).take 3=zu c:=qS qb5 h
def qqJ{c:GRule}(h:l[j]?=some c){i:Nat}(hi:i<3):(rR l)[j*3+i]?=(zu c)[i]?:=qcz qb5 h hi
def qw7:rR l++rR m=rR (l++m):=by simp[rR]
def qw8(h:j<l.length):j*3+3<=(rR l).length:=by rw[qhe];omega
end
def qfT(x:List UInt8×List Int)(a:Int):Option Int :=
 if a<0\/6<=a\/x.2.getD a.toNat 0<0 then none else some (if a=2 then orI .u32 (IntKind.wrap .u32 (x.2.getD a.toNat 0)) 1073741824 else IntKind.wrap .u32 (x.2.getD a.toNat 0))
def qgq(a:Int)(s:List UInt8):Option Int:=(zp.find? (λx=>decide (x.1=s))).bind λx=>qfT x a
def qft(x:List UInt8×List Int)(i:Nat)(hi:i<6):qfT x (i:Int)=if x.2.getD i 0<0 then none else some (if(i:Int)=2 then orI .u32 (IntKind.wrap .u32 (x.2.getD i 0)) 1073741824 else IntKind.wrap .u32 (x.2.getD i 0)):=by
 unfold qfT;rw[Int.toNat_natCast]
 grind
def qcA:IFn:=⟨[.tmp 4,.tmp 5],sq [.r [.q 2 (.box (.t 0)),.m 4 (.c (.w 0)),.m 5 .F],sq [.r [.n 7 1,.w 8 .lss 7 0,.n 9 8,.z 10 1 9,.g 11 (.bin .geq (.t 10) (.k 6)) 9 false,.o 12 9 11,.n 13 12,.z 14 1 13,.h 15 1 2 13 false,.g 16 (.iAddrA 6 1 (.t 15) (.t 14)) 13 false,.j 17 16 13 false,.g 18 (.bin .lss (.t 17) (.k 0)) 13 false,.o 19 13 18],.cond (.t 19) (sq [.r [.m 4 (.c (.w 0)),.m 5 .F],.ret]) (.skip)],.r [.n 20 1,.f 21 1 2,.q 22 (.iAddrA 6 1 (.t 21) (.t 20)),.d 23 22,.q 24 (.cvInt .u32 (.t 23)),.n 6 24],sq [.r [.n 25 1,.w 26 .eql 25 2],.cond (.t 26) (.r [.n 27 6,.q 28 (.bin .or (.t 27) (.c (.w 1073741824))),.n 6 28]) (.skip)],.r [.n 29 6,.n 4 29,.m 5 .T],.ret]⟩
def qIh(hc:qc P f qcA=true)(x:List UInt8×List Int)(a:Int):qa P f [.agg (qbg x),.j a] (match qfT x a with|some n=>.tup [.w n,.b true]|none=>.tup [.w 0,.b false]):=by
 refine qa.mk hc rfl ?_;simp only[qcA,qbg,vI,simprocAttr]
 by_cases h1:a<0
 .simp only[↓vS,vT,simprocAttr,h1];simp[vZ,qfT,h1]
 by_cases h2:6<=a
 .simp only[↓vS,vT,simprocAttr,h1,h2];simp[vZ,qfT,h2]
 have h3:a=0\/a=1\/a=2\/a=3\/a=4\/a=5:=by omega
 clear h1 h2;rcases h3 with rfl|rfl|rfl|rfl|rfl|rfl <;>
 .first
   | rw[show qfT x 0=_ from qft x 0 (by decide)]
   | rw[show qfT x 1=_ from qft x 1 (by decide)]
   | rw[show qfT x 2=_ from qft x 2 (by decide)]
   | rw[show qfT x 3=_ from qft x 3 (by decide)]
   | rw[show qfT x 4=_ from qft x 4 (by decide)]
   | rw[show qfT x 5=_ from qft x 5 (by decide)]
  generalize x.2.getD _ 0=v0
  by_cases h4:v0<0
  .simp +decide only[↓vS,vT,simprocAttr,h4];simp[vZ]
  .simp +decide only[↓vS,vT,simprocAttr,h4];simp[vZ]
def qee:IFn:=⟨[.tmp 3],sq [.r [.q 2 (.box (.t 0)),.m 3 .F],.r [.f 4 0 2,.d 5 4,.d 6 1,.b 7 .eql 5 6,.n 3 7],.ret]⟩
def qHk(hc:qc P f qee=true)(s:List UInt8)(x:List UInt8×List Int):qa P f [.agg (qbg x),.pf [.s s] 0] (.b (decide (x.1=s))):=by
 refine qa.mk hc (by simp[qt,clo,qbg]) ?_;simp only[qee,qbg,vI,simprocAttr];simp only[↓vS,vT,simprocAttr,vZ]
def qf4(a b c:Nat):IFn:=⟨[.tmp 4,.tmp 5],sq [.r [.q 3 (.box (.t 1)),.m 4 (.c (.w 0)),.m 5 (.k 0)],.r [.q 11 (.mkF a [] [.t 3]),.l 12 b [.t 11],.n 10 12,.x 13 10 0,.x 14 10 1,.q 6 (.alloc [.s [],.j 0,.j 0,.j 0,.j 0,.j 0,.j 0]),.u (.store 7 (.t 6) (.t 13)),.n 7 14],.r [.v 16 7 6,.n 17 0,.l 18 c [.t 16,.t 17],.n 15 18,.x 19 15 0,.x 20 15 1,.n 8 19,.n 9 20],sq [.r [.n 21 7,.q 22 (.un .not (.t 21)),.n 23 22,.z 24 9 23,.g 25 (.un .not (.t 24)) 23 false,.o 26 23 25],.cond (.t 26) (sq [.r [.m 4 (.c (.w 0)),.m 5 (.k 90)],.ret]) (.skip)],.r [.n 27 8,.n 4 27,.m 5 (.k 0)],.ret]⟩
def qBq{g1 g2 g3:Nat}(hc:qc P f (qf4 g1 g2 g3)=true)(h1:∀s x,qa P g1 [.agg (qbg x),.pf [.s s] 0] (.b (decide (x.1=s))))
  (h2:∀(p:List UInt8×List Int->Bool) (g:Nat) (a c:List AV),qt a=true->qt c=true->(∀x ∈ zp,qa P g (a++([.agg (qbg x)]++c)) (.b (p x)))->qa P g2 [.fn g a c] (qoh p))
  (h3:∀x a,qa P g3 [.agg (qbg x),.j a] (match qfT x a with|some n=>.tup [.w n,.b true]|none=>.tup [.w 0,.b false])) (a:Int) (s:List UInt8) :
  qa P f [.j a,.s s] (match qgq a s with|some n=>.tup [.w n,.j 0]|none=>.tup [.w 0,.j 90]):=by
 refine qa.mk hc rfl ?_;simp only[qf4,vI,simprocAttr];simp only[↓vS,vT,simprocAttr];refine(h2 (λx=>decide (x.1=s)) g1 [] [.pf [.s s] 0] rfl rfl (λx _=>h1 s x)).lend (vs':=[.fn g1 [] [.pf [.s s] 0]]) ?_ ?_ ?_
 .simp[vZ,vP,Tr.get_set]
 .unfold qoh;split<;>rfl
 unfold qoh qgq;cases hf:zp.find? (λx=>decide (x.1=s))with
 | none =>
  have e:=h3 ([],[0,0,0,0,0,0]) a;simp only[↓vS,vT,simprocAttr];refine e.sc ?_;cases hn:qfT ([],[0,0,0,0,0,0]) a with
  | none =>
   simp only[↓vS,vT,simprocAttr];simp[vZ]
  | some n =>
   simp only[↓vS,vT,simprocAttr];simp[vZ]
 | some x =>
  simp only[qbg,↓vS,vT,simprocAttr];refine(h3 x a).sc ?_;cases hn:qfT x a with
  | none =>
   simp only[↓vS,vT,simprocAttr];simp[vZ,hn]
  | some n =>
   simp only[↓vS,vT,simprocAttr];simp[vZ,hn]
def xr(mode:Int)(n:Nat)(al dn:Bool):Bool:=if mode=1 then al||decide (0<n)else if mode=2 then dn||decide (0<n)else false
def qgO:IFn:=⟨[.tmp 8],sq [.r [.m 8 .F],sq [.r [.n 9 0],.blk 0 (sq [.r [.q 11 (.bin .eql (.t 9) (.c (.y 1))),.n 10 11],.cond (.t 10) (sq [.r [.n 12 2,.n 13 12,.z 14 1 13,.g 15 (.bin .gtr (.t 14) (.k 0)) 13 false,.o 16 13 15,.n 8 16],.ret]) (sq [.r [.q 18 (.bin .eql (.t 9) (.c (.y 2))),.n 17 18],.cond (.t 17) (sq [.r [.n 19 3,.n 20 19,.z 21 1 20,.g 22 (.bin .gtr (.t 21) (.k 0)) 20 false,.o 23 20 22,.n 8 23],.ret]) (.skip)])])],.r [.m 8 .F],.ret]⟩
def qDf(hc:qc P f qgO=true)(mode:Int)(n:Nat)(al dn:Bool):qa P f [.y mode,.j n,.b al,.b dn] (.b (xr mode n al dn)):=by
 refine qa.mk hc rfl ?_;simp only[qgO,vI,simprocAttr]
 by_cases m1:mode=1
 .cases al
  .simp only[↓vS,vT,simprocAttr,m1];simp[vZ,xr]
  .simp only[↓vS,vT,simprocAttr,m1];simp[vZ,xr]
 by_cases m2:mode=2
 .cases dn
  .simp only[↓vS,vT,simprocAttr,m1,m2];simp[vZ,xr]
  .simp only[↓vS,vT,simprocAttr,m1,m2];simp[vZ,xr]
 simp only[↓vS,vT,simprocAttr,m1,m2];simp[vZ,xr,m1,m2]
def qfj:IFn:=⟨[.tmp 2],sq [.r [.m 2 (.c (.w 0))],.r [.m 3 (.c (.w 0))],sq [.r [.n 6 0,.e 7 6,.m 8 (.k 0)],.blk 0 (.loop (sq [.r [.s 9 8 7],.cond (.t 9) (.skip) (.exit 0),.blk 1 (sq [.r [.i 10 1 6 8,.d 11 10,.n 5 11],.r [.n 12 5,.n 13 3,.b 14 .neq 12 13],.cond (.t 14) (sq [.r [.n 15 5,.n 2 15],.ret]) (.skip)]),.r [.a 16 8 1,.n 8 16]]))],.r [.n 17 3,.n 2 17],.ret]⟩
def qIO(hc:qc P f qfj=true)(x y:Int):qa P f [.fz 2 (rI .u32 [x,y])] (.w (if x=0 then y else x)):=by
 refine qa.mk hc (by simp[qt,clo,qh]) ?_;simp only[qfj,rI,List.map_cons,List.map_nil,vI,simprocAttr];simp only[↓vS,vT,simprocAttr];refine qco ?_
 by_cases h1:x=0
 .simp only[↓vS,vT,simprocAttr,Int.reduceLT,Int.reduceAdd,qp,Int.reduceLE,Int.reduceNeg,h1];refine qco ?_
  by_cases h2:y=0
  .simp only[↓vS,vT,simprocAttr,Int.reduceLT,Int.reduceAdd,qp,Int.reduceLE,Int.reduceNeg,h2];refine qco ?_;simp only[↓vS,vT,simprocAttr,Int.reduceLT];simp[vZ,h1,h2]
  .simp only[↓vS,vT,simprocAttr,Int.reduceLT,Int.reduceAdd,qp,Int.reduceLE,Int.reduceNeg,h2];simp[vZ,h1]
 .simp only[↓vS,vT,simprocAttr,Int.reduceLT,Int.reduceAdd,qp,Int.reduceLE,Int.reduceNeg,h1];simp[vZ,h1]
def zr(arg mask act:Int)(l:List Int):List GTest:=l.map λv=>⟨arg,mask,v,act⟩
def zU(arg act:Int)(l:List Int):List GTest:=l.map λv=>⟨arg,v,v,act⟩
def qnK(P:Program)(f:Nat):Prop:=∀(arg mask act:Int) (l:List Int),l.length<=100000->Own P f [.j arg,.x mask,.w act,.fz l.length (rI .u64 l)] (.own 0 l.length) [.cells 4 true true (rT (zr arg mask act l))]
def qnH(P:Program)(f:Nat):Prop:=∀(arg act:Int) (l:List Int),l.length<=100000->Own P f [.j arg,.w act,.fz l.length (rI .u64 l)] (.own 0 l.length) [.cells 4 true true (rT (zU arg act l))]
def qgP:IFn:=⟨[.tmp 8],sq [.r [.m 8 .N],.r [.m 9 .N],sq [.r [.n 12 3,.e 13 12,.m 14 (.k 0)],.blk 0 (.loop (sq [.r [.s 15 14 13],.cond (.t 15) (.skip) (.exit 0),.blk 1 (sq [.r [.i 16 1 12 14,.d 17 16,.n 11 17],.r [.n 18 9,.n 19 0,.n 20 1,.n 21 11,.n 22 2,.q 23 (.build [.j 0,.x 0,.x 0,.w 0] [(0,1,(.t 19)),(1,1,(.t 20)),(2,1,(.t 21)),(3,1,(.t 22))]),.q 24 (.buildS 1 [.j 0,.x 0,.x 0,.w 0] [(0,4,(.t 23))]),.q 25 (.app 4 32 true (.t 18) (.t 24)),.n 9 25]]),.r [.a 26 14 1,.n 14 26]]))],.r [.n 27 9,.n 8 27],.ret]⟩
def qFR(hc:qc P f qgP=true):qnK P f:=by
 intro arg mask act l hl;refine Own.mk hc (by simp[qt,clo,qh]) ?_;simp only[qgP,vI,simprocAttr];simp only[↓vS,vT,simprocAttr]
 refine SL.loop (α:=Nat) (λj=>[(0,.j arg),(1,.x mask),(2,.w act),(9,.own 0 j),(12,.fz l.length (rI .u64 l)),(13,.j l.length),(14,.j j)]) (λj=>[.cells 4 true true (rT (zr arg mask act (l.take j)))])
  (λj=>j<=l.length) (λj=>l.length-j) 0 [9] ?_ ?_ ?_ rfl ?_ ?_
 .simp[vw,qh]
 .simp[vw,rT,zr]
 .simp
 .omega
 rintro j hj G ih;simp only[vI,simprocAttr]
 by_cases hlt:j<l.length
 .have hx:l[j]?=some l[j]:=by simp_all
  have hw:IntKind.wrap .i64 ((j:Int)+1)=((j+1:Nat):Int):=by rw[qp (by omega) (by omega)];omega
  have hr1:j+1<=qi:=by simp only[qi];omega
  have hr2:(j+1)*32<=qi:=by simp only[qi];omega
  have hln:(rT (zr arg mask act (l.take j))).length=j*4:=by rw[qeZ];simp[zr];omega
  have hb:j*4<=(rT (zr arg mask act (l.take j))).length:=by omega
  have htk:(rT (zr arg mask act (l.take j))).take (j*4)=rT (zr arg mask act (l.take j)):=List.take_of_length_le (by omega)
  have hap:rT (zr arg mask act (l.take j))++[AV.j arg,.x mask,.x l[j],.w act]=rT (zr arg mask act (l.take (j+1))):=by
   rw[List.take_add_one,hx];simp only[Option.toList_some,zr,List.map_append,List.map_cons,List.map_nil];rw[<- qqK];rfl
  simp +decide only[↓vS,vT,simprocAttr,hlt,zzU,qaW,hx,Option.map_some,hw,hr1,hr2,hln,htk,hap];refine ih (j+1) hlt (by omega) _ _ (Wk.mk _ _ [2] ?_ ?_ ?_ rfl)
  .simp[vw,qh]
  .simp[vw,qe,zX]
  .simp
 .have hj':j=l.length:=by omega
  subst hj';simp only[↓vS,vT,simprocAttr,hlt];intro _;refine⟨[0],?_⟩;simp[vw,qe,zX]
def qh1:IFn:=⟨[.tmp 6],sq [.r [.m 6 .N],.r [.m 7 .N],sq [.r [.n 10 2,.e 11 10,.m 12 (.k 0)],.blk 0 (.loop (sq [.r [.s 13 12 11],.cond (.t 13) (.skip) (.exit 0),.blk 1 (sq [.r [.i 14 1 10 12,.d 15 14,.n 9 15],.r [.n 16 7,.n 17 0,.n 18 9,.n 19 9,.n 20 1,.q 21 (.build [.j 0,.x 0,.x 0,.w 0] [(0,1,(.t 17)),(1,1,(.t 18)),(2,1,(.t 19)),(3,1,(.t 20))]),.q 22 (.buildS 1 [.j 0,.x 0,.x 0,.w 0] [(0,4,(.t 21))]),.q 23 (.app 4 32 true (.t 16) (.t 22)),.n 7 23]]),.r [.a 24 12 1,.n 12 24]]))],.r [.n 25 7,.n 6 25],.ret]⟩
def qGr(hc:qc P f qh1=true):qnH P f:=by
 intro arg act l hl;refine Own.mk hc (by simp[qt,clo,qh]) ?_;simp only[qh1,vI,simprocAttr];simp only[↓vS,vT,simprocAttr]
 refine SL.loop (α:=Nat) (λj=>[(0,.j arg),(1,.w act),(7,.own 0 j),(10,.fz l.length (rI .u64 l)),(11,.j l.length),(12,.j j)]) (λj=>[.cells 4 true true (rT (zU arg act (l.take j)))])
  (λj=>j<=l.length) (λj=>l.length-j) 0 [9] ?_ ?_ ?_ rfl ?_ ?_
 .simp[vw,qh]
 .simp[vw,rT,zU]
 .simp
 .omega
 rintro j hj G ih;simp only[vI,simprocAttr]
 by_cases hlt:j<l.length
 .have hx:l[j]?=some l[j]:=by simp_all
  have hw:IntKind.wrap .i64 ((j:Int)+1)=((j+1:Nat):Int):=by rw[qp (by omega) (by omega)];omega
  have hr1:j+1<=qi:=by simp only[qi];omega
  have hr2:(j+1)*32<=qi:=by simp only[qi];omega
  have hln:(rT (zU arg act (l.take j))).length=j*4:=by rw[qeZ];simp[zU];omega
  have htk:(rT (zU arg act (l.take j))).take (j*4)=rT (zU arg act (l.take j)):=List.take_of_length_le (by omega)
  have hap:rT (zU arg act (l.take j))++[AV.j arg,.x l[j],.x l[j],.w act]=rT (zU arg act (l.take (j+1))):=by
   rw[List.take_add_one,hx];simp only[Option.toList_some,zU,List.map_append,List.map_cons,List.map_nil];rw[<- qqK];rfl
  simp +decide only[↓vS,vT,simprocAttr,hlt,zzU,qaW,hx,Option.map_some,hw,hr1,hr2,hln,htk,hap];refine ih (j+1) hlt (by omega) _ _ (Wk.mk _ _ [2] ?_ ?_ ?_ rfl)
  .simp[vw,qh]
  .simp[vw,qe,zX]
  .simp
 .have hj':j=l.length:=by omega
  subst hj';simp only[↓vS,vT,simprocAttr,hlt];intro _;refine⟨[0],?_⟩;simp[vw,qe,zX]
def qaR(s:Int):List Int:=(qR.map (·.2)).filter λn=>decide (xS .u64 s n≠0)
def qgQ(a:Nat):IFn:=⟨[.tmp 2],sq [.r [.m 2 .N],.r [.m 3 .N],sq [.r [.l 6 a [],.m 7 (.k 0)],.blk 0 (.loop (sq [.r [.w 8 .lss 7 8],.cond (.t 8) (.skip) (.exit 0),.blk 1 (sq [.r [.q 9 (.idxA 8 2 true (.t 6) (.t 7)),.q 5 (.alloc [.s [],.x 0]),.u (.store 2 (.t 5) (.t 9))],.r [.n 10 0,.f 11 1 5,.d 12 11,.b 13 .and 10 12,.q 14 (.bin .neq (.t 13) (.c (.x 0)))],.cond (.t 14) (.r [.n 15 3,.f 16 1 5,.d 17 16,.q 18 (.buildS 1 [.x 0] [(0,1,(.t 17))]),.q 19 (.app 1 8 true (.t 15) (.t 18)),.n 3 19]) (.skip)]),.r [.a 20 7 1,.n 7 20]]))],.r [.n 21 3,.n 2 21],.ret]⟩
def qCR{g:Nat}(hc:qc P f (qgQ g)=true)(hg:qa P g [] (.agg (qR.flatMap (qa1 .u64))))(s:Int):qa P f [.x s] (.fz (qaR s).length (rI .u64 (qaR s))):=by
 refine qa.mk hc rfl ?_;simp only[qgQ,vI,simprocAttr];simp only[↓vS,vT,simprocAttr];refine hg.sc ?_;simp only[↓vS,vT,simprocAttr];have hlen:(qR.flatMap (qa1 .u64)).length=16:=by decide
 refine SL.loop (α:=Nat) (λj=>[(0,.x s),(3,.own 0 ((((qR.take j).map (·.2)).filter λn=>decide (xS .u64 s n≠0)).length)),(6,.agg (qR.flatMap (qa1 .u64))),(7,.j j)])
  (λj=>[.cells 1 true true (rI .u64 (((qR.take j).map (·.2)).filter λn=>decide (xS .u64 s n≠0)))])
  (λj=>j<=8) (λj=>8-j) 0 [9] ?_ ?_ ?_ rfl ?_ ?_
 .simp[vw,qR,qa1]
 .simp[vw,rI]
 .simp
 .omega
 rintro j hj G ih;simp only[vI,simprocAttr]
 by_cases hlt:j<8
 .have hlt':(j:Int)<8:=by omega
  have hjl:j<qR.length:=hlt;have hx:qR[j]?=some qR[j]:=by simp_all
  have hw:IntKind.wrap .i64 ((j:Int)+1)=((j+1:Nat):Int):=by rw[qp (by omega) (by omega)];omega
  have he:=qS (f:=qa1 .u64) (m:=2) ql8 hx;have hb:j*2+2<=(qR.flatMap (qa1 .u64)).length:=by omega
  generalize hA:((qR.take j).map (·.2)).filter (λn=>decide (xS .u64 s n≠0))=A
  have hA1:((qR.take (j+1)).map (·.2)).filter (λn=>decide (xS .u64 s n≠0))=A++(if xS .u64 s qR[j].2=0 then []else [qR[j].2]):=by
   rw[List.take_add_one,hx,List.map_append,List.filter_append,hA]
   by_cases h:xS .u64 s qR[j].2=0<;>simp[h]
  have hAl:A.length<=j:=by
   rw[<- hA];grind
  generalize hc0:qR[j]=c at hx he hA1;generalize hT:qR.flatMap (qa1 .u64)=T at he hb hlen;have hTc:qt T=true:=by rw[<- hT];rfl
  have hr1:A.length+1<=qi:=by simp only[qi];omega
  have hr2:(A.length+1)*8<=qi:=by simp only[qi];omega
  by_cases h0:xS .u64 s c.2=0
  .rw[if_pos h0,List.append_nil]at hA1;simp only[↓vS,vT,simprocAttr,hlt',hlt,he,hb,qa1,h0,hw];refine ih (j+1) hlt (by omega) _ _ (Wk.mk _ _ [0] ?_ ?_ ?_ rfl)
   .rw[hA1,hT];simp[vw,qe,hTc]
   .rw[hA1];simp[vw,qe,qh]
   .simp
  .rw[if_neg h0]at hA1;have hap:rI .u64 A++[AV.x c.2]=rI .u64 (A++[c.2]):=by rw[<- qqH];rfl
   simp +decide only[↓vS,vT,simprocAttr,hlt',hlt,he,hb,qa1,h0,hw,hr1,hr2,qad,zzU,hap];refine ih (j+1) hlt (by omega) _ _ (Wk.mk _ _ [3] ?_ ?_ ?_ rfl)
   .rw[hA1,hT];simp[vw,qe,hTc]
   .rw[hA1];simp[vw,qe,qh]
   .simp
 .have hj':j=8:=by omega
  subst hj';have hlt':¬(((8:Nat):Int)<8):=by decide
  simp only[↓vS,vT,simprocAttr,hlt'];refine .own 0 _ 1 true _ _ ?_ (λh0=>?_) (Frzs.self qh)
  .simp[Tr.get_set,qaR,qR]
  .have h0:(qaR s).length=0:=h0;rw[List.eq_nil_of_length_eq_zero h0];rfl
def zx:IFn:=⟨[.tmp 2],sq [.r [.m 2 .N],sq [.r [.n 3 0,.q 4 (.eqN false .slice (.t 3))],.cond (.t 4) (sq [.r [.m 2 .N],.ret]) (.skip)],.r [.q 5 (.buildS 0 [.j 0,.x 0,.x 0,.w 0] []),.n 6 0,.q 7 (.app 4 32 true (.t 5) (.t 6)),.n 2 7],.ret]⟩
def qCr(hc:qc P f zx=true):qbx P f 4 32:=by
 intro n rows hlen hcl hok hr1 hr2;refine Own.of_SC (by simp[qt,clo]) ?_;cases n with
 | zero =>
  obtain rfl:rows=[]:=by simp_all
  refine SC.nil0 (SC.mk hc (qk ?_)) (SC.mk hc (qk ?_))
  .simp only[zx,vI,simprocAttr];simp only[↓vS,vT,simprocAttr];intro _;refine⟨[1],?_⟩;simp[vw]
  .simp only[zx,vI,simprocAttr];simp only[↓vS,vT,simprocAttr,if_true];intro _;refine⟨[1],?_⟩;simp[vw]
 | succ n =>
  refine SC.mk hc (qk ?_);simp only[zx,vI,simprocAttr];have h1:1<=n+1:=by omega
  have h2:(n+1)*4<=rows.length:=by omega
  have h3:rows.take ((n+1)*4)=rows:=by grind
  have h4:¬(n+1<=0):=by omega
  simp only[↓vS,vT,simprocAttr,h1,h2,h3,h4,hr1,hr2,hok,zzU,Nat.zero_mul];intro _;refine⟨[1],?_⟩;simp[vw,qe,hcl]
def mkC(p:Pol)(a d:Int)(b n:Nat):List AV:=qx p++[.j a,.own b n,.w d]
def mkB(p:Pol)(a d:Int)(b n:Nat):Blk:=.v (mkC p a d b n)
def zc(a act:Int)(ts:List GTest)(ns:List (List UInt8)):List GRule:=ns.filterMap λs=>(qgq a s).map λn=>⟨n,ts,act⟩
def qcP(P:Program)(f:Nat):Prop:=∀(p:Pol) (a d act:Int) (ts:List GTest) (ns:List (List UInt8)) (rs:List GRule),ts.length<=100000->rs.length+ns.length<=100000->
 Upd P f [.ptr 0 0,.w act,.fz ts.length (rT ts),.fz ns.length (rS ns)] [mkB p a d 1 rs.length,.cells 3 true true (rR rs)] (.tup [])
  [mkB p a d 2 (rs++zc a act ts ns).length,.dead,.cells 3 true true (rR (rs++zc a act ts ns))]
def qc7(a b:Nat):IFn:=⟨[],sq [.r [.n 12 3,.e 13 12,.m 14 (.k 0)],.blk 0 (.loop (sq [.r [.s 15 14 13],.cond (.t 15) (.skip) (.exit 0),.blk 1 (sq [.r [.i 16 1 12 14,.d 17 16,.n 9 17],.r [.n 19 0,.q 20 (.nilChk (.t 19)),.f 21 13 20,.f 22 0 21,.d 23 22,.n 24 9,.l 25 a [.t 23,.t 24],.n 18 25,.x 26 18 0,.x 27 18 1,.n 10 26,.n 11 27],.r [.n 28 11,.w 29 .eql 28 0],.cond (.t 29) (.reg true [.n 30 0,.n 31 0,.q 32 (.nilChk (.t 31)),.f 33 13 32,.f 34 1 33,.d 35 34,.n 36 10,.n 37 2,.l 38 b [.t 37],.n 39 1,.q 40 (.build [.w 0,.nils,.w 0] [(0,1,(.t 36)),(1,1,(.t 38)),(2,1,(.t 39))]),.q 41 (.buildS 1 [.w 0,.nils,.w 0] [(0,3,(.t 40))]),.q 42 (.app 3 40 true (.t 35) (.t 41)),.q 43 (.nilChk (.t 30)),.f 44 13 43,.f 45 1 44,.u (.store 1 (.t 45) (.t 42))]) (.skip)]),.r [.a 46 14 1,.n 14 46]]))]⟩
def qHH{g1 g2:Nat}(hc:qc P f (qc7 g1 g2)=true)
  (h1:∀(a:Int) (s:List UInt8),qa P g1 [.j a,.s s] (match qgq a s with|some n=>.tup [.w n,.j 0]|none=>.tup [.w 0,.j 90])) (h2:qbx P g2 4 32):qcP P f:=by
 intro p a d act ts ns rs hts hrs;refine Upd.mkd hc (by simp[ji,bnd,mkB]) (by simp) ?_;simp only[qc7,mkB,mkC,qx,vI,simprocAttr,zzC,zzN];simp only[↓vS,vT,simprocAttr]
 refine SL.loopd (α:=Nat) (λj=>[(0,.ptr 0 0),(1,.w act),(2,.fz ts.length (rT ts)),(12,.fz ns.length (rS ns)),(13,.j ns.length),(14,.j j)])
  (λj=>[mkB p a d 2 (rs++zc a act ts (ns.take j)).length,.dead,.cells 3 true true (rR (rs++zc a act ts (ns.take j)))])
  (λj=>j<=ns.length) (λj=>ns.length-j) 0 [0,1,1] ?_ ?_ ?_ rfl (by simp) ?_ ?_ ?_
 .simp[vw,zX,qof]
 .simp[vw,mkB,mkC,qx,zc,qe,qq,qn,qh]
 .simp[jD,mkB]
 .intro b hb;have:b=0\/b=1:=by omega
  rcases this with rfl|rfl<;>simp[qhg,rl]
 .omega
 rintro j hj G ih;simp only[vI,simprocAttr,mkB,mkC,qx,zzC,zzN]
 by_cases hlt:j<ns.length
 .have hx:ns[j]?=some ns[j]:=by simp_all
  have hg:(rS ns)[j]?=some (.s ns[j]):=by rw[qEr,hx];rfl
  have hw:IntKind.wrap .i64 ((j:Int)+1)=((j+1:Nat):Int):=by rw[qp (by omega) (by omega)];omega
  have hnx:zc a act ts (ns.take (j+1))=zc a act ts (ns.take j)++((qgq a ns[j]).map λn=>⟨n,ts,act⟩).toList:=by
   rw[List.take_add_one,hx];unfold zc;rw[List.filterMap_append];cases hq:qgq a ns[j]<;>simp[hq]
  have hl1:(zc a act ts (ns.take j)).length<=j:=by
   unfold zc;grind
  generalize hA:rs++zc a act ts (ns.take j)=A;have hAl:A.length<=rs.length+j:=by rw[<- hA];grind
  have hA1:rs++zc a act ts (ns.take (j+1))=A++((qgq a ns[j]).map λn=>⟨n,ts,act⟩).toList:=by rw[hnx,<- List.append_assoc,hA]
  generalize hs0:ns[j]=s at hg hA1;simp only[↓vS,vT,simprocAttr,hlt,zzU,hg];refine(h1 a s).sc ?_;cases hn:qgq a s with
  | none =>
   rw[hn]at hA1;simp only[Option.map_none,Option.toList_none,List.append_nil]at hA1;simp +decide only[↓vS,vT,simprocAttr,hw];refine ih (j+1) hlt (by omega) _ _ (Wk.mkd _ _ [0,1,2] ?_ ?_ ?_ rfl (by simp) ?_)
   .simp[vw,zX,qof]
   .rw[hA1];simp[vw,mkB,mkC,qx,qe,qq,qn,qh]
   .simp[jD,mkB]
   .intro b hb;have:b=0\/b=1:=by omega
    rcases this with rfl|rfl<;>simp[qhg,rl]
  | some n =>
   rw[hn]at hA1;simp only[Option.map_some,Option.toList_some]at hA1;have hr1:A.length+1<=qi:=by simp only[qi];omega
   have hr2:(A.length+1)*40<=qi:=by simp only[qi];omega
   simp +decide only[↓vS,vT,simprocAttr,hw];refine zB ?_;simp only[↓vS,vT,simprocAttr];refine(h2.pure qeZ zX qxf (by simp only[qi];omega) (by simp only[qi];omega)).pc ?_;have hap:rR A++[AV.w n,.fz ts.length (rT ts),.w act]=rR (A++[⟨n,ts,act⟩]):=by rw[<- qw7];rfl
   have htk:(rR A).take (A.length*3)=rR A:=List.take_of_length_le (by rw[qhe];omega);simp +decide only[↓vS,vT,simprocAttr,hr1,hr2,qhe,htk,hap];refine ih (j+1) hlt (by omega) _ _ (Wk.mkd _ _ [0,1,4] ?_ ?_ ?_ rfl (by simp) ?_)
   .simp[vw,zX,qof];omega
   .rw[hA1];simp[vw,mkB,mkC,qx,qe,qq,qn,qh]
   .simp[jD,mkB]
   .intro b hb;have:b=0\/b=1:=by omega
    rcases this with rfl|rfl<;>simp[qhg,rl]
 .have hj':j=ns.length:=by omega
  subst hj';simp only[↓vS,vT,simprocAttr,hlt];intro _;rw[List.take_length];refine⟨[0,1,2],?_⟩;simp[vw,mkB,mkC,qx,qe,qq,qn,qh,jD,rl]
  grind
def zZ(P:Program)(f:Nat)(F:Pol->Int->Bool×List GRule×Int):Prop:=∀(p:Pol) (a:Int),PolOk p->PolR p->
 Upd P f [.ptr 0 0] [mkB p a 2147418112 1 0,.cells 3 true true (rR [])] (.b (F p a).1) [mkB p a (F p a).2.2 2 (F p a).2.1.length,.dead,.cells 3 true true (rR (F p a).2.1)]
def qiT(a own:Int)(l:List GCall):List GRule:=l.flatMap λc=>zc a (if c.act=0 then own else c.act) [] [c.name]
def qlu(p:Pol)(a:Int):Bool×List GRule×Int:=(xr p.filter.mode p.filter.calls.length true false,qiT a (if p.filter.mode=1 then 2147418112 else p.deny) p.filter.calls,if p.filter.mode=1 then p.deny else 2147418112)
def qaN(a act:Int)(ts:List GTest)(ns:List (List UInt8)):(zc a act ts ns).length<=ns.length:=List.length_filterMap_le _ _
def qo1(a own:Int):∀l,(qiT a own l).length<=l.length
 | []=>zzL _
 | c::l=>by
  have h1:=qo1 a own l;have h2:=qaN a (if c.act=0 then own else c.act) [] [c.name]
  simp only[qiT,List.flatMap_cons,zzP,List.length_cons,List.length_nil]at h1 h2 ⊢;omega
def qsY{a own:Int}{l:List GCall}{j:Nat}{c:GCall}(h:l[j]?=some c):qiT a own (l.take (j+1))=qiT a own (l.take j)++zc a (if c.act=0 then own else c.act) [] [c.name]:=by
 rw[List.take_add_one,h];simp[qiT]
def jv(a b c:Nat):ICode:=sq [sq [.r [.n 27 0,.q 28 (.nilChk (.t 27)),.f 29 0 28,.f 30 1 29,.f 31 1 30,.d 32 31,.e 33 32,.m 34 (.k 0)],.blk 0 (.loop (sq [.r [.s 35 34 33],.cond (.t 35) (.skip) (.exit 0),.blk 1 (sq [.r [.i 36 2 32 34,.v 37 2 36,.q 5 (.alloc [.s [],.w 0]),.u (.store 2 (.t 5) (.t 37))],.reg true [.n 38 0,.f 39 1 5,.d 40 39,.n 41 3,.q 42 (.buildS 2 [.w 0] [(0,1,(.t 40)),(1,1,(.t 41))]),.l 43 a [.t 42],.f 44 0 5,.d 45 44,.q 46 (.buildS 1 [.s []] [(0,1,(.t 45))]),⟨(some 47),.callW b [.t 38,.t 43,.N,.t 46],none⟩]]),.r [.a 48 34 1,.n 34 48]]))],.reg true [.n 49 0,.q 50 (.nilChk (.t 49)),.f 51 0 50,.f 52 1 51,.f 53 0 52,.d 54 53,.n 55 0,.q 56 (.nilChk (.t 55)),.f 57 0 56,.f 58 1 57,.f 59 1 58,.d 60 59,.e 61 60,.l 62 c [.t 54,.t 61,.T,.F],.n 2 62],.ret]
def qb1(a b c:Nat):IFn:=⟨[.tmp 2],sq [.r [.m 2 .F],.r [.n 6 0,.q 7 (.nilChk (.t 6)),.f 8 0 7,.f 9 3 8,.d 10 9,.n 3 10],sq [.r [.n 11 0,.q 12 (.nilChk (.t 11)),.f 13 0 12,.f 14 1 13,.f 15 0 14,.d 16 15,.q 17 (.bin .eql (.t 16) (.c (.y 1)))],.cond (.t 17) (.r [.n 18 0,.n 19 0,.q 20 (.nilChk (.t 19)),.f 21 0 20,.f 22 3 21,.d 23 22,.q 24 (.nilChk (.t 18)),.f 25 13 24,.f 26 2 25,.u (.store 1 (.t 26) (.t 23)),.m 3 (.c (.w 2147418112))]) (.skip)],.cut (jv a b c)]⟩
def qlR{g1 g2 g3:Nat}(h1:∀x y,qa P g1 [.fz 2 (rI .u32 [x,y])] (.w (if x=0 then y else x)))(h2:qcP P g2)(h3:∀mode n al dn,qa P g3 [.y mode,.j (n:Nat),.b al,.b dn] (.b (xr mode n al dn)))
  (p:Pol) (a d own:Int) (hp:PolOk p) {t':Tr AV} {h':Hp} (hw:Wk 2 t' h' (mkT [(0,.ptr 0 0),(3,.w own)]) (mkH 0 [mkB p a d 1 0,.cells 3 true true (rR [])])) :
  S P 2 (jv g1 g2 g3) (xu [.tmp 2] (qov 2 (.b (xr p.filter.mode p.filter.calls.length true false)) [mkB p a d 2 (qiT a own p.filter.calls).length,.dead,.cells 3 true true (rR (qiT a own p.filter.calls))])) t' h':=by
 have hl:=hp.c;refine S.weak hw (qk ?_);simp only[jv,mkB,mkC,qx,zzC,zzN,vI,simprocAttr];simp only[↓vS,vT,simprocAttr]
 refine SL.loopd (α:=Nat) (λj=>[(0,.ptr 0 0),(3,.w own),(32,.fz p.filter.calls.length (rC p.filter.calls)),(33,.j p.filter.calls.length),(34,.j j)])
  (λj=>[mkB p a d 2 (qiT a own (p.filter.calls.take j)).length,.dead,.cells 3 true true (rR (qiT a own (p.filter.calls.take j)))])
  (λj=>j<=p.filter.calls.length) (λj=>p.filter.calls.length-j) 0 [0,1,1] ?_ ?_ ?_ rfl (by simp) ?_ ?_ ?_
 .simp[vw,qn]
 .simp[vw,mkB,mkC,qx,qiT,qe,qq,qn,qh]
 .simp[jD,mkB]
 .intro b hb;have:b=0\/b=1:=by omega
  rcases this with rfl|rfl<;>simp[qhg,rl]
 .omega
 rintro j hj G ih;simp only[vI,simprocAttr,mkB,mkC,qx,zzC,zzN]
 by_cases hlt:j<p.filter.calls.length
 .have hx:p.filter.calls[j]?=some p.filter.calls[j]:=by simp_all
  have he:=qob hx;have hb:=ql1 hlt;have hw:IntKind.wrap .i64 ((j:Int)+1)=((j+1:Nat):Int):=by rw[qp (by omega) (by omega)];omega
  have hA1:=qsY (a:=a) (own:=own) hx;have hl1:=qo1 a own (p.filter.calls.take j);rw[List.length_take,Nat.min_eq_left (by omega)]at hl1;generalize hA:qiT a own (p.filter.calls.take j)=A at hA1 hl1;generalize hc0:p.filter.calls[j]=c at he hA1;simp only[↓vS,vT,simprocAttr,hlt,hb,he,qe9];refine zB ?_;simp only[↓vS,vT,simprocAttr];refine(h1 c.act own).lendp (vs':=[.fz 2 (rI .u32 [c.act,own])]) ?_ rfl ?_
  .refine .cons _ _ _ _ (.cut 1 rfl (zzL _) ?_) .nil;simp[vw,rI]
  simp only[↓vS,vT,simprocAttr];refine PC.give (vs':=[.ptr 0 0,.w (if c.act=0 then own else c.act),.fz 0 (rT []),.fz 1 (rS [c.name])]) [(5,.v [.s c.name])] ?_ ?_ ?_
  .simp_all[Tr.get_set]
  .refine .keep _ _ _ (.keep _ _ _ (.fz _ _ _ _ .nilz (.fz _ _ _ _ (.cut 1 rfl (zzL _) ?_) .nil)));simp[vw,trP,rS]
  simp only[zj,zC,qB];refine(h2 p a d (if c.act=0 then own else c.act) [] [c.name] A (by simp) (by grind)).pc (vs:=[.ptr 0 0,.w (if c.act=0 then own else c.act),.fz 0 (rT []),.fz 1 (rS [c.name])]) [0,2] (Lent.of (by decide) ?_) ?_
  .simp[vL,vw,mkB,mkC,qx,qu qq,qf qq,qu qn,qf qn,qu qh,qf qh]
  rw[<- hA1];simp only[vK,simprocAttr,mkB,mkC,qx,zzC,zzN,qf qq,qf qn,qf qh];simp only[↓vS,vT,simprocAttr,hw];refine ih (j+1) hlt (by omega) _ _ (Wk.mkd _ _ [0,1,6] ?_ ?_ ?_ rfl (by simp) ?_)
  .simp[vw,qn]
  .simp[vw,mkB,mkC,qx,qe,qq,qn,qh]
  .simp[jD,mkB]
  .intro b hb;have:b=0\/b=1:=by omega
   rcases this with rfl|rfl<;>simp[qhg,rl]
 .have hj':j=p.filter.calls.length:=by omega
  subst hj';simp only[↓vS,vT,simprocAttr,hlt];refine zB ?_;simp only[↓vS,vT,simprocAttr];refine(h3 p.filter.mode p.filter.calls.length true false).pc ?_;simp only[↓vS,vT,simprocAttr];rw[List.take_length];intro _;refine⟨[0,1,2],?_⟩;simp[vw,mkB,mkC,qx,qe,qq,qn,qh,jD,rl]
  grind
def qBn{g1 g2 g3:Nat}(hc:qc P f (qb1 g1 g2 g3)=true)(h1:∀x y,qa P g1 [.fz 2 (rI .u32 [x,y])] (.w (if x=0 then y else x)))(h2:qcP P g2)(h3:∀mode n al dn,qa P g3 [.y mode,.j (n:Nat),.b al,.b dn] (.b (xr mode n al dn))):zZ P f qlu:=by
 intro p a hp hR;refine Upd.mkd hc (by simp[ji,bnd,mkB]) (by simp) ?_;simp only[qb1,mkB,mkC,qx,vI,simprocAttr,zzC,zzN]
 by_cases m:p.filter.mode=1
 .simp only[↓vS,vT,simprocAttr,m];have e:qlu p a=(xr p.filter.mode p.filter.calls.length true false,qiT a 2147418112 p.filter.calls,p.deny):=by simp[qlu,m]
  rw[e];refine qlR h1 h2 h3 p a p.deny 2147418112 hp (Wk.mkd _ _ [0,1] ?_ ?_ ?_ rfl (by simp) ?_)
  .simp[vw]
  .simp[vw,mkB,mkC,qx,qe,qq,qn,qh,m,rR]
  .simp[jD,mkB]
  .intro b hb;have:b=0\/b=1:=by omega
   rcases this with rfl|rfl<;>simp[qhg,rl]
 .simp only[↓vS,vT,simprocAttr,m];have e:qlu p a=(xr p.filter.mode p.filter.calls.length true false,qiT a p.deny p.filter.calls,2147418112):=by simp[qlu,m]
  rw[e];refine qlR h1 h2 h3 p a 2147418112 p.deny hp (Wk.mkd _ _ [0,1] ?_ ?_ ?_ rfl (by simp) ?_)
  .simp[vw]
  .simp[vw,mkB,mkC,qx,qe,qq,qn,qh,rR]
  .simp[jD,mkB]
  .intro b hb;have:b=0\/b=1:=by omega
   rcases this with rfl|rfl<;>simp[qhg,rl]
def qjf(a own:Int)(l:List GCall):List GRule:=l.flatMap λc=>zc a own [] [c.name]
def qlP(p:Pol)(a:Int):Bool×List GRule×Int:=(xr p.log.mode p.log.calls.length false true,qjf a (if p.log.mode=2 then 2147418112 else 2147221504) p.log.calls,if p.log.mode=2 then 2147221504 else 2147418112)
def qpt(a own:Int):∀l,(qjf a own l).length<=l.length
 | []=>zzL _
 | c::l=>by
  have h1:=qpt a own l;have h2:=qaN a own [] [c.name];simp only[qjf,List.flatMap_cons,zzP,List.length_cons,List.length_nil]at h1 h2 ⊢;omega
def qtq{a own:Int}{l:List GCall}{j:Nat}{c:GCall}(h:l[j]?=some c):qjf a own (l.take (j+1))=qjf a own (l.take j)++zc a own [] [c.name]:=by
 rw[List.take_add_one,h];simp[qjf]
def qac(a b:Nat):ICode:=sq [sq [.r [.n 17 0,.q 18 (.nilChk (.t 17)),.f 19 0 18,.f 20 4 19,.f 21 1 20,.d 22 21,.e 23 22,.m 24 (.k 0)],.blk 0 (.loop (sq [.r [.s 25 24 23],.cond (.t 25) (.skip) (.exit 0),.blk 1 (sq [.r [.i 26 2 22 24,.v 27 2 26,.q 5 (.alloc [.s [],.w 0]),.u (.store 2 (.t 5) (.t 27))],.r [.n 28 0,.n 29 3,.f 30 0 5,.d 31 30,.q 32 (.buildS 1 [.s []] [(0,1,(.t 31))]),.l 33 a [.t 28,.t 29,.N,.t 32]]]),.r [.a 34 24 1,.n 24 34]]))],.reg true [.n 35 0,.q 36 (.nilChk (.t 35)),.f 37 0 36,.f 38 4 37,.f 39 0 38,.d 40 39,.n 41 0,.q 42 (.nilChk (.t 41)),.f 43 0 42,.f 44 4 43,.f 45 1 44,.d 46 45,.e 47 46,.l 48 b [.t 40,.t 47,.F,.T],.n 2 48],.ret]
def qdM(a b:Nat):IFn:=⟨[.tmp 2],sq [.r [.m 2 .F],.r [.m 3 (.c (.w 2147221504))],sq [.r [.n 6 0,.q 7 (.nilChk (.t 6)),.f 8 0 7,.f 9 4 8,.f 10 0 9,.d 11 10,.q 12 (.bin .eql (.t 11) (.c (.y 2)))],.cond (.t 12) (.r [.n 13 0,.q 14 (.nilChk (.t 13)),.f 15 13 14,.f 16 2 15,.u (.store 1 (.t 16) (.c (.w 2147221504))),.m 3 (.c (.w 2147418112))]) (.skip)],.cut (qac a b)]⟩
def qrG{g2 g3:Nat}(h2:qcP P g2)(h3:∀mode n al dn,qa P g3 [.y mode,.j (n:Nat),.b al,.b dn] (.b (xr mode n al dn)))
  (p:Pol) (a d own:Int) (hp:PolOk p) {t':Tr AV} {h':Hp} (hw:Wk 2 t' h' (mkT [(0,.ptr 0 0),(3,.w own)]) (mkH 0 [mkB p a d 1 0,.cells 3 true true (rR [])])) :
  S P 2 (qac g2 g3) (xu [.tmp 2] (qov 2 (.b (xr p.log.mode p.log.calls.length false true)) [mkB p a d 2 (qjf a own p.log.calls).length,.dead,.cells 3 true true (rR (qjf a own p.log.calls))])) t' h':=by
 have hl:=hp.l;refine S.weak hw (qk ?_);simp only[qac,mkB,mkC,qx,zzC,zzN,vI,simprocAttr];simp only[↓vS,vT,simprocAttr]
 refine SL.loopd (α:=Nat) (λj=>[(0,.ptr 0 0),(3,.w own),(22,.fz p.log.calls.length (rC p.log.calls)),(23,.j p.log.calls.length),(24,.j j)])
  (λj=>[mkB p a d 2 (qjf a own (p.log.calls.take j)).length,.dead,.cells 3 true true (rR (qjf a own (p.log.calls.take j)))])
  (λj=>j<=p.log.calls.length) (λj=>p.log.calls.length-j) 0 [0,1,1] ?_ ?_ ?_ rfl (by simp) ?_ ?_ ?_
 .simp[vw,qn]
 .simp[vw,mkB,mkC,qx,qjf,qe,qq,qn,qh]
 .simp[jD,mkB]
 .intro b hb;have:b=0\/b=1:=by omega
  rcases this with rfl|rfl<;>simp[qhg,rl]
 .omega
 rintro j hj G ih;simp only[vI,simprocAttr,mkB,mkC,qx,zzC,zzN]
 by_cases hlt:j<p.log.calls.length
 .have hx:p.log.calls[j]?=some p.log.calls[j]:=by simp_all
  have he:=qob hx;have hb:=ql1 hlt;have hw:IntKind.wrap .i64 ((j:Int)+1)=((j+1:Nat):Int):=by rw[qp (by omega) (by omega)];omega
  have hA1:=qtq (a:=a) (own:=own) hx;have hl1:=qpt a own (p.log.calls.take j);rw[List.length_take,Nat.min_eq_left (by omega)]at hl1;generalize hA:qjf a own (p.log.calls.take j)=A at hA1 hl1;generalize hc0:p.log.calls[j]=c at he hA1;simp only[↓vS,vT,simprocAttr,hlt,hb,he,qe9];refine SC.give (vs':=[.ptr 0 0,.w own,.fz 0 (rT []),.fz 1 (rS [c.name])]) [(4,.v [.s c.name])] ?_ ?_ ?_
  .simp_all[Tr.get_set]
  .refine .keep _ _ _ (.keep _ _ _ (.fz _ _ _ _ .nilz (.fz _ _ _ _ (.cut 1 rfl (zzL _) ?_) .nil)));simp[vw,trP,rS]
  simp only[zj,zC,qB];refine(h2 p a d own [] [c.name] A (by simp) (by grind)).sc (vs:=[.ptr 0 0,.w own,.fz 0 (rT []),.fz 1 (rS [c.name])]) [0,2] (Lent.of (by decide) ?_) ?_
  .simp[vL,vw,mkB,mkC,qx,qu qq,qf qq,qu qn,qf qn,qu qh,qf qh]
  rw[<- hA1];simp only[vK,simprocAttr,mkB,mkC,qx,zzC,zzN,qf qq,qf qn,qf qh];simp only[↓vS,vT,simprocAttr,hw];refine ih (j+1) hlt (by omega) _ _ (Wk.mkd _ _ [0,1,5] ?_ ?_ ?_ rfl (by simp) ?_)
  .simp[vw,qn]
  .simp[vw,mkB,mkC,qx,qe,qq,qn,qh]
  .simp[jD,mkB]
  .intro b hb;have:b=0\/b=1:=by omega
   rcases this with rfl|rfl<;>simp[qhg,rl]
 .have hj':j=p.log.calls.length:=by omega
  subst hj';simp only[↓vS,vT,simprocAttr,hlt];refine zB ?_;simp only[↓vS,vT,simprocAttr];refine(h3 p.log.mode p.log.calls.length false true).pc ?_;simp only[↓vS,vT,simprocAttr];rw[List.take_length];intro _;refine⟨[0,1,2],?_⟩;simp[vw,mkB,mkC,qx,qe,qq,qn,qh,jD,rl]
  grind
def qHg{g2 g3:Nat}(hc:qc P f (qdM g2 g3)=true)(h2:qcP P g2)(h3:∀mode n al dn,qa P g3 [.y mode,.j (n:Nat),.b al,.b dn] (.b (xr mode n al dn))):zZ P f qlP:=by
 intro p a hp hR;refine Upd.mkd hc (by simp[ji,bnd,mkB]) (by simp) ?_;simp only[qdM,mkB,mkC,qx,vI,simprocAttr,zzC,zzN]
 by_cases m:p.log.mode=2
 .simp only[↓vS,vT,simprocAttr,m];have e:qlP p a=(xr p.log.mode p.log.calls.length false true,qjf a 2147418112 p.log.calls,2147221504):=by simp[qlP,m]
  rw[e];refine qrG h2 h3 p a 2147221504 2147418112 hp (Wk.mkd _ _ [0,1] ?_ ?_ ?_ rfl (by simp) ?_)
  .simp[vw]
  .simp[vw,mkB,mkC,qx,qe,qq,qn,qh,m,rR]
  .simp[jD,mkB]
  .intro b hb;have:b=0\/b=1:=by omega
   rcases this with rfl|rfl<;>simp[qhg,rl]
 .simp only[↓vS,vT,simprocAttr,m];have e:qlP p a=(xr p.log.mode p.log.calls.length false true,qjf a 2147221504 p.log.calls,2147418112):=by simp[qlP,m]
  rw[e];refine qrG h2 h3 p a 2147418112 2147221504 hp (Wk.mkd _ _ [0,1] ?_ ?_ ?_ rfl (by simp) ?_)
  .simp[vw]
  .simp[vw,mkB,mkC,qx,qe,qq,qn,qh,rR]
  .simp[jD,mkB]
  .intro b hb;have:b=0\/b=1:=by omega
   rcases this with rfl|rfl<;>simp[qhg,rl]
def qii(P:Program)(f:Nat):Prop:=∀(arg mask act:Int) (l:List Int),l.length<=100000->qa P f [.j arg,.x mask,.w act,.fz l.length (rI .u64 l)] (.fz (zr arg mask act l).length (rT (zr arg mask act l)))
def qAZ(P:Program)(f:Nat):Prop:=∀(arg act:Int) (l:List Int),l.length<=100000->qa P f [.j arg,.w act,.fz l.length (rI .u64 l)] (.fz (zU arg act l).length (rT (zU arg act l)))
theorem qnK.pure(h:qnK P f):qii P f:=by
 intro arg mask act l hl;rw[show(zr arg mask act l).length=l.length by simp[zr]]
 refine(h arg mask act l hl).pure (by simp[qt,clo]) ?_;refine .own 0 _ 4 true _ _ ?_ (λh0=>?_) (Frzs.self zX)
 .simp[qan,Hp.push,shb,H0,Tr.get_set,xt zX]
 .rw[List.eq_nil_of_length_eq_zero h0];rfl
theorem qnH.pure(h:qnH P f):qAZ P f:=by
 intro arg act l hl;rw[show(zU arg act l).length=l.length by simp[zU]]
 refine(h arg act l hl).pure (by simp[qt,clo]) ?_;refine .own 0 _ 4 true _ _ ?_ (λh0=>?_) (Frzs.self zX)
 .simp[qan,Hp.push,shb,H0,Tr.get_set,xt zX]
 .rw[List.eq_nil_of_length_eq_zero h0];rfl
def qdh:List UInt8:=[115,99,104,101,100,95,115,101,116,115,99,104,101,100,117,108,101,114]
def rtM(p:Pol)(a:Int):Bool×List GRule×Int:=(p.rt,zc a 327681 (zr 1 4294967295 2147418112 [0,3,5]) [qdh],2147418112)
def qbm(a b:Nat):IFn:=⟨[.tmp 2],sq [.r [.m 2 .F],.r [.n 3 0,.q 4 (.buildS 3 [.x 0] [(0,1,(.c (.x 0))),(1,1,(.c (.x 3))),(2,1,(.c (.x 5)))]),.l 5 a [.k 1,(.c (.x 4294967295)),(.c (.w 2147418112)),.t 4],.q 6 (.buildS 1 [.s []] [(0,1,(.c (.s [115,99,104,101,100,95,115,101,116,115,99,104,101,100,117,108,101,114])))]),.l 7 b [.t 3,(.c (.w 327681)),.t 5,.t 6]],.r [.n 8 0,.q 9 (.nilChk (.t 8)),.f 10 0 9,.f 11 11 10,.d 12 11,.n 2 12],.ret]⟩
def qx1{g1 g2:Nat}(hc:qc P f (qbm g1 g2)=true)(h1:qii P g1)(h2:qcP P g2):zZ P f rtM:=by
 intro p a hp hR;refine Upd.mkd hc (by simp[ji,bnd,mkB]) (by simp) ?_;simp only[qbm,mkB,mkC,qx,vI,simprocAttr,zzC,zzN];simp only[↓vS,vT,simprocAttr];refine SC.give (vs':=[.j 1,.x 4294967295,.w 2147418112,.fz 3 (rI .u64 [0,3,5])]) [(2,.v [.x 0,.x 3,.x 5])] ?_ ?_ ?_
 .intro q hq;simp at hq;subst hq;simp[Tr.get_set]
 .refine .keep _ _ _ (.keep _ _ _ (.keep _ _ _ (.fz _ _ _ _ (.cut 1 rfl (zzL _) ?_) .nil)));simp[vw,trP,rI]
 simp only[zj,zC,qB];refine(h1 1 4294967295 2147418112 [0,3,5] (by decide)).sc ?_;generalize hts:zr 1 4294967295 2147418112 [0,3,5]=ts;have hl:ts.length<=100000:=by rw[<- hts];decide
 simp only[↓vS,vT,simprocAttr];refine SC.give (vs':=[.ptr 0 0,.w 327681,.fz ts.length (rT ts),.fz 1 (rS [qdh])]) [(3,.v [.s qdh])] ?_ ?_ ?_
 .intro q hq;simp at hq;subst hq;simp[Tr.get_set,qdh]
 .refine .keep _ _ _ (.keep _ _ _ (.keep _ _ _ (.fz _ _ _ _ (.cut 1 rfl (zzL _) ?_) .nil)));simp[vw,trP,rS,qdh]
 simp only[zj,zC,qB];refine(h2 p a 2147418112 327681 ts [qdh] [] hl (by simp)).sc (vs:=[.ptr 0 0,.w 327681,.fz ts.length (rT ts),.fz 1 (rS [qdh])]) [0,1] (Lent.of (by decide) ?_) ?_
 .simp[vL,vw,mkB,mkC,qx,qu qq,qf qq,qu qn,qf qn,qu qh,qf qh]
 simp only[vK,simprocAttr,mkB,mkC,qx,zzC,zzN,qf qq,qf qn,qf qh];simp only[↓vS,vT,simprocAttr];intro _;refine⟨[0,1,4],?_⟩;simp[vw,rtM,hts,mkB,mkC,qx,qe,qq,qn,qh,jD,rl]
 grind
def xK:List UInt8:=[115,111,99,107,101,116]
def xj:List UInt8:=[117,110,115,104,97,114,101]
def jM:List UInt8:=[99,108,111,110,101]
def je:List UInt8:=[115,101,116,110,115]
def xJ:List UInt8:=[99,108,111,110,101,51]
def qbT:List UInt8:=[109,109,97,112]
def xb:List UInt8:=[109,112,114,111,116,101,99,116]
def qU:List UInt8:=[112,107,101,121,95,109,112,114,111,116,101,99,116]
def qap:List UInt8:=[115,104,109,97,116]
def zI:List UInt8:=[112,101,114,115,111,110,97,108,105,116,121]
def peM(p:Pol)(a:Int):Bool×List GRule×Int:=(p.pe,zc a 327681 (zr 0 4294967295 2147418112 [0,4294967295]) [zI],2147418112)
def qax(a b:Nat):IFn:=⟨[.tmp 2],sq [.r [.m 2 .F],.r [.n 3 0,.q 4 (.buildS 2 [.x 0] [(0,1,(.c (.x 0))),(1,1,(.c (.x 4294967295)))]),.l 5 a [.k 0,(.c (.x 4294967295)),(.c (.w 2147418112)),.t 4],.q 6 (.buildS 1 [.s []] [(0,1,(.c (.s [112,101,114,115,111,110,97,108,105,116,121])))]),.l 7 b [.t 3,(.c (.w 327681)),.t 5,.t 6]],.r [.n 8 0,.q 9 (.nilChk (.t 8)),.f 10 0 9,.f 11 10 10,.d 12 11,.n 2 12],.ret]⟩
def qtv{g1 g2:Nat}(hc:qc P f (qax g1 g2)=true)(h1:qii P g1)(h2:qcP P g2):zZ P f peM:=by
 intro p a hp hR;refine Upd.mkd hc (by simp[ji,bnd,mkB]) (by simp) ?_;simp only[qax,mkB,mkC,qx,vI,simprocAttr,zzC,zzN];simp only[↓vS,vT,simprocAttr];refine SC.give (vs':=[.j 0,.x 4294967295,.w 2147418112,.fz 2 (rI .u64 [0,4294967295])]) [(2,.v [.x 0,.x 4294967295])] ?_ ?_ ?_
 .intro q hq;simp at hq;subst hq;simp[Tr.get_set]
 .refine .keep _ _ _ (.keep _ _ _ (.keep _ _ _ (.fz _ _ _ _ (.cut 1 rfl (zzL _) ?_) .nil)));simp[vw,trP,rI]
 simp only[zj,zC,qB];refine(h1 0 4294967295 2147418112 [0,4294967295] (by decide)).sc ?_;generalize hts0:zr 0 4294967295 2147418112 [0,4294967295]=ts0;have hlts0:ts0.length<=100000:=by rw[<- hts0];decide
 simp only[↓vS,vT,simprocAttr];refine SC.give (vs':=[.ptr 0 0,.w 327681,.fz ts0.length (rT ts0),.fz 1 (rS [zI])]) [(3,.v [.s zI])] ?_ ?_ ?_
 .intro q hq;simp at hq;subst hq;simp[Tr.get_set,zI]
 .refine .keep _ _ _ (.keep _ _ _ (.keep _ _ _ (.fz _ _ _ _ (.cut 1 rfl (zzL _) ?_) .nil)));simp[vw,trP,rS,zI]
 simp only[zj,zC,qB];refine(h2 p a 2147418112 327681 ts0 [zI] [] hlts0 (by simp)).sc (vs:=[.ptr 0 0,.w 327681,.fz ts0.length (rT ts0),.fz 1 (rS [zI])]) [0,1] (Lent.of (by decide) ?_) ?_
 .simp[vL,vw,mkB,mkC,qx,qu qq,qf qq,qu qn,qf qn,qu qh,qf qh]
 simp only[vK,simprocAttr,mkB,mkC,qx,zzC,zzN,qf qq,qf qn,qf qh]
 have hlA:(zc a 327681 ts0 [zI]).length<=1:=by
  have:=qaN a 327681 ts0 [zI];simp only[zzP,List.length_cons,List.length_nil]at this ⊢;omega
 generalize hA0:zc a 327681 ts0 [zI]=A0 at hlA;simp only[↓vS,vT,simprocAttr];intro _;refine⟨[0,1,4],?_⟩;have e:(peM p a).2.1=A0:=by simp only[peM,<- hA0,<- hts0]
 rw[e];simp[vw,peM,mkB,mkC,qx,qe,qq,qn,qh,jD,rl]
 grind
def weM(p:Pol)(a:Int):Bool×List GRule×Int:=(p.we,zc a 2147418112 (zU 2 327681 [6]) [qbT]++zc a 2147418112 (zU 2 327681 [4]) [xb,qU]++zc a 2147418112 (zU 2 327681 [32768]) [qap],2147418112)
def qai(a b:Nat):IFn:=⟨[.tmp 2],sq [.r [.m 2 .F],.r [.n 3 0,.q 4 (.buildS 1 [.x 0] [(0,1,(.c (.x 6)))]),.l 5 a [.k 2,(.c (.w 327681)),.t 4],.q 6 (.buildS 1 [.s []] [(0,1,(.c (.s [109,109,97,112])))]),.l 7 b [.t 3,(.c (.w 2147418112)),.t 5,.t 6]],.r [.n 8 0,.q 9 (.buildS 1 [.x 0] [(0,1,(.c (.x 4)))]),.l 10 a [.k 2,(.c (.w 327681)),.t 9],.q 11 (.buildS 2 [.s []] [(0,1,(.c (.s [109,112,114,111,116,101,99,116]))),(1,1,(.c (.s [112,107,101,121,95,109,112,114,111,116,101,99,116])))]),.l 12 b [.t 8,(.c (.w 2147418112)),.t 10,.t 11]],.r [.n 13 0,.q 14 (.buildS 1 [.x 0] [(0,1,(.c (.x 32768)))]),.l 15 a [.k 2,(.c (.w 327681)),.t 14],.q 16 (.buildS 1 [.s []] [(0,1,(.c (.s [115,104,109,97,116])))]),.l 17 b [.t 13,(.c (.w 2147418112)),.t 15,.t 16]],.r [.n 18 0,.q 19 (.nilChk (.t 18)),.f 20 0 19,.f 21 9 20,.d 22 21,.n 2 22],.ret]⟩
def qrI{g1 g2:Nat}(hc:qc P f (qai g1 g2)=true)(h1:qAZ P g1)(h2:qcP P g2):zZ P f weM:=by
 intro p a hp hR;refine Upd.mkd hc (by simp[ji,bnd,mkB]) (by simp) ?_;simp only[qai,mkB,mkC,qx,vI,simprocAttr,zzC,zzN];simp only[↓vS,vT,simprocAttr];refine SC.give (vs':=[.j 2,.w 327681,.fz 1 (rI .u64 [6])]) [(2,.v [.x 6])] ?_ ?_ ?_
 .intro q hq;simp at hq;subst hq;simp[Tr.get_set]
 .refine .keep _ _ _ (.keep _ _ _ (.fz _ _ _ _ (.cut 1 rfl (zzL _) ?_) .nil));simp[vw,trP,rI]
 simp only[zj,zC,qB];refine(h1 2 327681 [6] (by decide)).sc ?_;generalize hts0:zU 2 327681 [6]=ts0;have hlts0:ts0.length<=100000:=by rw[<- hts0];decide
 simp only[↓vS,vT,simprocAttr];refine SC.give (vs':=[.ptr 0 0,.w 2147418112,.fz ts0.length (rT ts0),.fz 1 (rS [qbT])]) [(3,.v [.s qbT])] ?_ ?_ ?_
 .intro q hq;simp at hq;subst hq;simp[Tr.get_set,qbT]
 .refine .keep _ _ _ (.keep _ _ _ (.keep _ _ _ (.fz _ _ _ _ (.cut 1 rfl (zzL _) ?_) .nil)));simp[vw,trP,rS,qbT]
 simp only[zj,zC,qB];refine(h2 p a 2147418112 2147418112 ts0 [qbT] [] hlts0 (by simp)).sc (vs:=[.ptr 0 0,.w 2147418112,.fz ts0.length (rT ts0),.fz 1 (rS [qbT])]) [0,1] (Lent.of (by decide) ?_) ?_
 .simp[vL,vw,mkB,mkC,qx,qu qq,qf qq,qu qn,qf qn,qu qh,qf qh]
 simp only[vK,simprocAttr,mkB,mkC,qx,zzC,zzN,qf qq,qf qn,qf qh]
 have hlA:(zc a 2147418112 ts0 [qbT]).length<=1:=by
  have:=qaN a 2147418112 ts0 [qbT];simp only[zzP,List.length_cons,List.length_nil]at this ⊢;omega
 generalize hA0:zc a 2147418112 ts0 [qbT]=A0 at hlA;simp only[↓vS,vT,simprocAttr];refine SC.give (vs':=[.j 2,.w 327681,.fz 1 (rI .u64 [4])]) [(5,.v [.x 4])] ?_ ?_ ?_
 .intro q hq;simp at hq;subst hq;simp[Tr.get_set]
 .refine .keep _ _ _ (.keep _ _ _ (.fz _ _ _ _ (.cut 1 rfl (zzL _) ?_) .nil));simp[vw,trP,rI]
 simp only[zj,zC,qB];refine(h1 2 327681 [4] (by decide)).sc ?_;generalize hts1:zU 2 327681 [4]=ts1;have hlts1:ts1.length<=100000:=by rw[<- hts1];decide
 simp only[↓vS,vT,simprocAttr];refine SC.give (vs':=[.ptr 0 0,.w 2147418112,.fz ts1.length (rT ts1),.fz 2 (rS [xb,qU])]) [(6,.v [.s xb,.s qU])] ?_ ?_ ?_
 .intro q hq;simp at hq;subst hq;simp[Tr.get_set,xb,qU]
 .refine .keep _ _ _ (.keep _ _ _ (.keep _ _ _ (.fz _ _ _ _ (.cut 1 rfl (zzL _) ?_) .nil)));simp[vw,trP,rS,xb,qU]
 simp only[zj,zC,qB];refine(h2 p a 2147418112 2147418112 ts1 [xb,qU] A0 hlts1 (by simp;omega)).sc (vs:=[.ptr 0 0,.w 2147418112,.fz ts1.length (rT ts1),.fz 2 (rS [xb,qU])]) [0,4] (Lent.of (by decide) ?_) ?_
 .simp[vL,vw,mkB,mkC,qx,qu qq,qf qq,qu qn,qf qn,qu qh,qf qh]
 simp only[vK,simprocAttr,mkB,mkC,qx,zzC,zzN,qf qq,qf qn,qf qh]
 have hlA:(A0++zc a 2147418112 ts1 [xb,qU]).length<=3:=by
  have:=qaN a 2147418112 ts1 [xb,qU];simp only[zzP,List.length_cons,List.length_nil]at this ⊢;omega
 generalize hA1:A0++zc a 2147418112 ts1 [xb,qU]=A1 at hlA;simp only[↓vS,vT,simprocAttr];refine SC.give (vs':=[.j 2,.w 327681,.fz 1 (rI .u64 [32768])]) [(8,.v [.x 32768])] ?_ ?_ ?_
 .intro q hq;simp at hq;subst hq;simp[Tr.get_set]
 .refine .keep _ _ _ (.keep _ _ _ (.fz _ _ _ _ (.cut 1 rfl (zzL _) ?_) .nil));simp[vw,trP,rI]
 simp only[zj,zC,qB];refine(h1 2 327681 [32768] (by decide)).sc ?_;generalize hts2:zU 2 327681 [32768]=ts2;have hlts2:ts2.length<=100000:=by rw[<- hts2];decide
 simp only[↓vS,vT,simprocAttr];refine SC.give (vs':=[.ptr 0 0,.w 2147418112,.fz ts2.length (rT ts2),.fz 1 (rS [qap])]) [(9,.v [.s qap])] ?_ ?_ ?_
 .intro q hq;simp at hq;subst hq;simp[Tr.get_set,qap]
 .refine .keep _ _ _ (.keep _ _ _ (.keep _ _ _ (.fz _ _ _ _ (.cut 1 rfl (zzL _) ?_) .nil)));simp[vw,trP,rS,qap]
 simp only[zj,zC,qB];refine(h2 p a 2147418112 2147418112 ts2 [qap] A1 hlts2 (by simp;omega)).sc (vs:=[.ptr 0 0,.w 2147418112,.fz ts2.length (rT ts2),.fz 1 (rS [qap])]) [0,7] (Lent.of (by decide) ?_) ?_
 .simp[vL,vw,mkB,mkC,qx,qu qq,qf qq,qu qn,qf qn,qu qh,qf qh]
 simp only[vK,simprocAttr,mkB,mkC,qx,zzC,zzN,qf qq,qf qn,qf qh]
 have hlA:(A1++zc a 2147418112 ts2 [qap]).length<=4:=by
  have:=qaN a 2147418112 ts2 [qap];simp only[zzP,List.length_cons,List.length_nil]at this ⊢;omega
 generalize hA2:A1++zc a 2147418112 ts2 [qap]=A2 at hlA;simp only[↓vS,vT,simprocAttr];intro _;refine⟨[0,1,10],?_⟩;have e:(weM p a).2.1=A2:=by simp only[weM,<- hA2,<- hA1,<- hA0,<- hts0,<- hts1,<- hts2]
 rw[e];simp[vw,weM,mkB,mkC,qx,qe,qq,qn,qh,jD,rl]
 grind
def nsM(p:Pol)(a:Int):Bool×List GRule×Int:=(decide (p.spaces≠0),zc a 2147418112 (zU 0 327681 (qaR p.spaces)) [xj,jM]++zc a 2147418112 (zU 1 327681 (qaR p.spaces)++zr 1 4294967295 327681 [0]) [je]++zc a 327718 [] [xJ],2147418112)
def qaP(a b c d:Nat):IFn:=⟨[.tmp 2],sq [.r [.m 2 .F],.r [.n 4 0,.q 5 (.nilChk (.t 4)),.f 6 0 5,.f 7 8 6,.d 8 7,.l 9 a [.t 8],.n 3 9],.r [.n 10 0,.n 11 3,.l 12 b [.k 0,(.c (.w 327681)),.t 11],.q 13 (.buildS 2 [.s []] [(0,1,(.c (.s [117,110,115,104,97,114,101]))),(1,1,(.c (.s [99,108,111,110,101])))]),.l 14 c [.t 10,(.c (.w 2147418112)),.t 12,.t 13]],.r [.n 15 0,.n 16 3,.l 17 b [.k 1,(.c (.w 327681)),.t 16],.q 18 (.buildS 1 [.x 0] [(0,1,(.c (.x 0)))]),.l 19 d [.k 1,(.c (.x 4294967295)),(.c (.w 327681)),.t 18],.q 20 (.app 4 32 true (.t 17) (.t 19)),.q 21 (.buildS 1 [.s []] [(0,1,(.c (.s [115,101,116,110,115])))]),.l 22 c [.t 15,(.c (.w 2147418112)),.t 20,.t 21]],.r [.n 23 0,.q 24 (.buildS 1 [.s []] [(0,1,(.c (.s [99,108,111,110,101,51])))]),.l 25 c [.t 23,(.c (.w 327718)),.N,.t 24]],.r [.n 26 0,.q 27 (.nilChk (.t 26)),.f 28 0 27,.f 29 8 28,.d 30 29,.q 31 (.bin .neq (.t 30) (.c (.x 0))),.n 2 31],.ret]⟩
def qt4{g0 g1 g2 g3:Nat}(hc:qc P f (qaP g0 g1 g2 g3)=true)(h0:∀s,qa P g0 [.x s] (.fz (qaR s).length (rI .u64 (qaR s))))(hb:qnH P g1)(h1:qii P g3)(h2:qcP P g2):zZ P f nsM:=by
 intro p a hp hR;refine Upd.mkd hc (by simp[ji,bnd,mkB]) (by simp) ?_;simp only[qaP,mkB,mkC,qx,vI,simprocAttr,zzC,zzN];simp only[↓vS,vT,simprocAttr];refine(h0 p.spaces).sc ?_;have hfl:(qaR p.spaces).length<=8:=Nat.le_trans (List.length_filter_le _ _) (by decide);generalize hF:qaR p.spaces=F at hfl;simp only[↓vS,vT,simprocAttr];refine(hb.pure 0 327681 F (by omega)).sc ?_;have hlts0:(zU 0 327681 F).length<=100000:=by simp[zU];omega
 generalize hts0:zU 0 327681 F=ts0 at hlts0;simp only[↓vS,vT,simprocAttr];refine SC.give (vs':=[.ptr 0 0,.w 2147418112,.fz ts0.length (rT ts0),.fz 2 (rS [xj,jM])]) [(2,.v [.s xj,.s jM])] ?_ ?_ ?_
 .intro q hq;simp at hq;subst hq;simp[Tr.get_set,xj,jM]
 .refine .keep _ _ _ (.keep _ _ _ (.keep _ _ _ (.fz _ _ _ _ (.cut 1 rfl (zzL _) ?_) .nil)));simp[vw,trP,rS,xj,jM]
 simp only[zj,zC,qB];refine(h2 p a 2147418112 2147418112 ts0 [xj,jM] [] hlts0 (by simp)).sc (vs:=[.ptr 0 0,.w 2147418112,.fz ts0.length (rT ts0),.fz 2 (rS [xj,jM])]) [0,1] (Lent.of (by decide) ?_) ?_
 .simp[vL,vw,mkB,mkC,qx,qu qq,qf qq,qu qn,qf qn,qu qh,qf qh]
 simp only[vK,simprocAttr,mkB,mkC,qx,zzC,zzN,qf qq,qf qn,qf qh]
 have hlA:(zc a 2147418112 ts0 [xj,jM]).length<=2:=by
  have:=qaN a 2147418112 ts0 [xj,jM];simp only[zzP,List.length_cons,List.length_nil]at this ⊢;omega
 generalize hA0:zc a 2147418112 ts0 [xj,jM]=A0 at hlA;simp only[↓vS,vT,simprocAttr];refine(hb 1 327681 F (by omega)).sc ?_;simp only[vJ,simprocAttr,xt zX];have hlb:(zU 1 327681 F).length=F.length:=by simp[zU]
 have hlbT:(rT (zU 1 327681 F)).length=F.length*4:=by rw[qeZ,hlb]
 simp only[↓vS,vT,simprocAttr];refine SC.give (vs':=[.j 1,.x 4294967295,.w 327681,.fz 1 (rI .u64 [0])]) [(5,.v [.x 0])] ?_ ?_ ?_
 .intro q hq;simp at hq;subst hq;simp[Tr.get_set]
 .refine .keep _ _ _ (.keep _ _ _ (.keep _ _ _ (.fz _ _ _ _ (.cut 1 rfl (zzL _) ?_) .nil)));simp[vw,trP,rI]
 simp only[zj,zC,qB];refine(h1 1 4294967295 327681 [0] (by decide)).sc ?_;generalize hts1:zr 1 4294967295 327681 [0]=ts1;have hlts1:ts1.length<=100000:=by rw[<- hts1];decide
 simp only[↓vS,vT,simprocAttr];have hl1:ts1.length=1:=by rw[<- hts1];rfl
 have hl1T:(rT ts1).length=4:=by rw[qeZ,hl1]
 obtain⟨ts2,hts2⟩:∃x,zU 1 327681 F++ts1=x:=⟨_,rfl⟩;have hl2:F.length+1=ts2.length:=by rw[<- hts2,zzP,hlb,hl1]
 have hr1:ts2.length<=qi:=by simp only[qi];omega
 have hr2:ts2.length*32<=qi:=by simp only[qi];omega
 have hlts2:ts2.length<=100000:=by omega
 have htk:(rT (zU 1 327681 F)).take (F.length*4)=rT (zU 1 327681 F):=List.take_of_length_le (by omega);have htk1:(rT ts1).take 4=rT ts1:=by grind
 have hok:qD (rT ts1)=true:=qxf;simp +decide only[↓vS,vT,simprocAttr,hl1,hl1T,hlbT,htk,htk1,hl2,hr1,hr2,qqK,hts2,hok];refine SC.give (vs':=[.ptr 0 0,.w 2147418112,.fz ts2.length (rT ts2),.fz 1 (rS [je])]) [(6,.cells 4 true true (rT ts2)),(7,.v [.s je])] ?_ ?_ ?_
 .intro q hq;simp at hq;rcases hq with rfl|rfl<;>simp[Tr.get_set,je]
 .refine .keep _ _ _ (.keep _ _ _ (.fz _ _ _ _ (.own 6 _ 4 true (rT ts2) _ ?_ (λh0=>?_) (Frzs.self zX)) (.fz _ _ _ _ (.cut 1 rfl (zzL _) ?_) .nil)))
  .simp[trP,Tr.get_set]
  .rw[List.eq_nil_of_length_eq_zero h0];rfl
  simp[vw,trP,rS,je]
 simp only[zj,zC,qB];refine(h2 p a 2147418112 2147418112 ts2 [je] A0 hlts2 (by simp;omega)).sc (vs:=[.ptr 0 0,.w 2147418112,.fz ts2.length (rT ts2),.fz 1 (rS [je])]) [0,3] (Lent.of (by decide) ?_) ?_
 .simp[vL,vw,mkB,mkC,qx,qu qq,qf qq,qu qn,qf qn,qu qh,qf qh]
 simp only[vK,simprocAttr,mkB,mkC,qx,zzC,zzN,qf qq,qf qn,qf qh]
 have hlA:(A0++zc a 2147418112 ts2 [je]).length<=3:=by
  have:=qaN a 2147418112 ts2 [je];simp only[zzP,List.length_cons,List.length_nil]at this ⊢;omega
 generalize hA1:A0++zc a 2147418112 ts2 [je]=A1 at hlA;simp only[↓vS,vT,simprocAttr];refine SC.give (vs':=[.ptr 0 0,.w 327718,.fz 0 (rT []),.fz 1 (rS [xJ])]) [(9,.v [.s xJ])] ?_ ?_ ?_
 .intro q hq;simp at hq;subst hq;simp[Tr.get_set,xJ]
 .refine .keep _ _ _ (.keep _ _ _ (.fz _ _ _ _ .nilz (.fz _ _ _ _ (.cut 1 rfl (zzL _) ?_) .nil)));simp[vw,trP,rS,xJ]
 simp only[zj,zC,qB];refine(h2 p a 2147418112 327718 [] [xJ] A1 (by simp) (by simp;omega)).sc (vs:=[.ptr 0 0,.w 327718,.fz 0 (rT []),.fz 1 (rS [xJ])]) [0,8] (Lent.of (by decide) ?_) ?_
 .simp[vL,vw,mkB,mkC,qx,qu qq,qf qq,qu qn,qf qn,qu qh,qf qh]
 simp only[vK,simprocAttr,mkB,mkC,qx,zzC,zzN,qf qq,qf qn,qf qh]
 have hlA:(A1++zc a 327718 [] [xJ]).length<=4:=by
  have:=qaN a 327718 [] [xJ];simp only[zzP,List.length_cons,List.length_nil]at this ⊢;omega
 generalize hA2:A1++zc a 327718 [] [xJ]=A2 at hlA;simp only[↓vS,vT,simprocAttr];intro _;refine⟨[0,1,10],?_⟩;have e:(nsM p a).2.1=A2:=by simp only[nsM,<- hA2,<- hA1,<- hA0,<- hts2,<- hts0,<- hts1,<- hF]
 rw[e];simp[vw,nsM,mkB,mkC,qx,qe,qq,qn,qh,jD,rl]
 grind
def fmM(p:Pol)(a:Int):Bool×List GRule×Int :=
 (xr p.fmode p.fams.length true false,zc a (if p.fmode=2 then 2147418112 else 327777) (zr 0 4294967295 (if p.fmode=2 then 327777 else 2147418112) p.fams) [xK],2147418112)
def xX(a b c:Nat):ICode:=sq [.r [.n 32 0,.n 33 4,.n 34 3,.n 35 5,.l 36 a [.k 0,(.c (.x 4294967295)),.t 34,.t 35],.q 37 (.buildS 1 [.s []] [(0,1,(.c (.s [115,111,99,107,101,116])))]),.l 38 b [.t 32,.t 33,.t 36,.t 37]],.reg true [.n 39 0,.q 40 (.nilChk (.t 39)),.f 41 0 40,.f 42 7 41,.d 43 42,.n 44 0,.q 45 (.nilChk (.t 44)),.f 46 0 45,.f 47 6 46,.d 48 47,.e 49 48,.l 50 c [.t 43,.t 49,.T,.F],.n 2 50],.ret]
def xW(a b c:Nat):ICode:=sq [.r [.m 5 .N],sq [.r [.n 16 0,.q 17 (.nilChk (.t 16)),.f 18 0 17,.f 19 6 18,.d 20 19,.e 21 20,.m 22 (.k 0)],.blk 0 (.loop (sq [.r [.s 23 22 21],.cond (.t 23) (.skip) (.exit 0),.blk 1 (sq [.r [.i 24 1 20 22,.d 25 24,.n 7 25],.r [.n 26 5,.n 27 7,.q 28 (.cvInt .u64 (.t 27)),.q 29 (.buildS 1 [.x 0] [(0,1,(.t 28))]),.q 30 (.app 1 8 true (.t 26) (.t 29)),.n 5 30]]),.r [.a 31 22 1,.n 22 31]]))],.cut (xX a b c)]
def qbl(a b c:Nat):IFn:=⟨[.tmp 2],sq [.r [.m 2 .F],.r [.m 3 (.c (.w 2147418112)),.m 4 (.c (.w 327777))],sq [.r [.n 8 0,.q 9 (.nilChk (.t 8)),.f 10 0 9,.f 11 7 10,.d 12 11,.q 13 (.bin .eql (.t 12) (.c (.y 2)))],.cond (.t 13) (.r [.n 14 4,.n 15 3,.n 3 14,.n 4 15]) (.skip)],.cut (xW a b c)]⟩
def qzF{g1 g2 g3:Nat}(h1:qii P g1)(h2:qcP P g2)(h3:∀mode n al dn,qa P g3 [.y mode,.j (n:Nat),.b al,.b dn] (.b (xr mode n al dn)))
  (p:Pol) (a nm ot:Int) (hp:PolOk p) {t':Tr AV} {h':Hp} (hw:Wk 2 t' h' (mkT [(0,.ptr 0 0),(2,.b false),(3,.w nm),(4,.w ot),(5,.own 2 p.fams.length)]) (mkH 0 [mkB p a 2147418112 1 0,.cells 3 true true (rR []),.cells 1 true true (rI .u64 p.fams)])) :
  S P 2 (xX g1 g2 g3) (xu [.tmp 2] (qov 2 (.b (xr p.fmode p.fams.length true false)) [mkB p a 2147418112 2 (zc a ot (zr 0 4294967295 nm p.fams) [xK]).length,.dead,.cells 3 true true (rR (zc a ot (zr 0 4294967295 nm p.fams) [xK]))])) t' h':=by
 have hl:=hp.f;refine S.weak hw (qk ?_);simp only[xX,mkB,mkC,qx,zzC,zzN,vI,simprocAttr];simp only[↓vS,vT,simprocAttr];refine SC.give (vs':=[.j 0,.x 4294967295,.w nm,.fz p.fams.length (rI .u64 p.fams)]) [(2,.cells 1 true true (rI .u64 p.fams))] ?_ ?_ ?_
 .intro q hq;simp at hq;subst hq;simp[Tr.get_set]
 .refine .keep _ _ _ (.keep _ _ _ (.keep _ _ _ (.fz _ _ _ _ (.own 2 _ 1 true (rI .u64 p.fams) _ ?_ (λh0=>?_) (Frzs.self qh)) .nil)))
  .simp[trP,Tr.get_set]
  .rw[List.eq_nil_of_length_eq_zero h0];rfl
 simp only[zj,zC,qB];refine(h1 0 4294967295 nm p.fams (by omega)).sc ?_;have hlts:(zr 0 4294967295 nm p.fams).length<=100000:=by simp[zr];omega
 generalize hts:zr 0 4294967295 nm p.fams=ts at hlts;simp only[↓vS,vT,simprocAttr];refine SC.give (vs':=[.ptr 0 0,.w ot,.fz ts.length (rT ts),.fz 1 (rS [xK])]) [(3,.v [.s xK])] ?_ ?_ ?_
 .intro q hq;simp at hq;subst hq;simp[Tr.get_set,xK]
 .refine .keep _ _ _ (.keep _ _ _ (.keep _ _ _ (.fz _ _ _ _ (.cut 1 rfl (zzL _) ?_) .nil)));simp[vw,trP,rS,xK]
 simp only[zj,zC,qB];refine(h2 p a 2147418112 ot ts [xK] [] hlts (by simp)).sc (vs:=[.ptr 0 0,.w ot,.fz ts.length (rT ts),.fz 1 (rS [xK])]) [0,1] (Lent.of (by decide) ?_) ?_
 .simp[vL,vw,mkB,mkC,qx,qu qq,qf qq,qu qn,qf qn,qu qh,qf qh]
 simp only[vK,simprocAttr,mkB,mkC,qx,zzC,zzN,qf qq,qf qn,qf qh];generalize hA:zc a ot ts [xK]=A;simp only[↓vS,vT,simprocAttr];refine zB ?_;simp only[↓vS,vT,simprocAttr];refine(h3 p.fmode p.fams.length true false).pc ?_;simp only[↓vS,vT,simprocAttr];intro _;refine⟨[0,1,4],?_⟩;simp[vw,mkB,mkC,qx,qe,qq,qn,qh,jD,rl]
 grind
def qrE{g1 g2 g3:Nat}(h1:qii P g1)(h2:qcP P g2)(h3:∀mode n al dn,qa P g3 [.y mode,.j (n:Nat),.b al,.b dn] (.b (xr mode n al dn)))
  (p:Pol) (a nm ot:Int) (hp:PolOk p) (hR:PolR p) {t':Tr AV} {h':Hp} (hw:Wk 2 t' h' (mkT [(0,.ptr 0 0),(2,.b false),(3,.w nm),(4,.w ot)]) (mkH 0 [mkB p a 2147418112 1 0,.cells 3 true true (rR [])])) :
  S P 2 (xW g1 g2 g3) (xu [.tmp 2] (qov 2 (.b (xr p.fmode p.fams.length true false)) [mkB p a 2147418112 2 (zc a ot (zr 0 4294967295 nm p.fams) [xK]).length,.dead,.cells 3 true true (rR (zc a ot (zr 0 4294967295 nm p.fams) [xK]))])) t' h':=by
 have hl:=hp.f;refine S.weak hw (qk ?_);simp only[xW,mkB,mkC,qx,zzC,zzN,vI,simprocAttr];simp only[↓vS,vT,simprocAttr]
 refine SL.loopd (α:=Nat) (λj=>[(0,.ptr 0 0),(2,.b false),(3,.w nm),(4,.w ot),(5,.own 2 j),(20,.fz p.fams.length (rI .u32 p.fams)),(21,.j p.fams.length),(22,.j j)])
  (λj=>[mkB p a 2147418112 1 0,.cells 3 true true (rR []),.cells 1 true true (rI .u64 (p.fams.take j))])
  (λj=>j<=p.fams.length) (λj=>p.fams.length-j) 0 [0,1,99] ?_ ?_ ?_ rfl (by simp) ?_ ?_ ?_
 .simp[vw,qh]
 .simp[vw,mkB,mkC,qx,qe,qq,qn,qh]
 .simp[jD,mkB]
 .intro b hb;have:b=0\/b=1:=by omega
  rcases this with rfl|rfl<;>simp[qhg,rl]
 .omega
 rintro j hj G ih;simp only[vI,simprocAttr,mkB,mkC,qx,zzC,zzN]
 by_cases hlt:j<p.fams.length
 .have hx:p.fams[j]?=some p.fams[j]:=by simp_all
  have hw:IntKind.wrap .i64 ((j:Int)+1)=((j+1:Nat):Int):=by rw[qp (by omega) (by omega)];omega
  have hb:=hR.fams p.fams[j] (by simp_all);have hln:(rI .u64 (p.fams.take j)).length=j:=by rw[qad];simp_all
  have htk:(rI .u64 (p.fams.take j)).take j=rI .u64 (p.fams.take j):=List.take_of_length_le (by omega)
  have hap:rI .u64 (p.fams.take j)++[AV.x p.fams[j]]=rI .u64 (p.fams.take (j+1)):=by
   rw[List.take_add_one,hx];simp only[Option.toList_some,<- qqH];rfl
  have hcv:IntKind.wrap .u64 p.fams[j]=p.fams[j]:=by grind[qdl]
  have hr1:j+1<=qi:=by simp only[qi];omega
  have hr2:(j+1)*8<=qi:=by simp only[qi];omega
  simp +decide only[↓vS,vT,simprocAttr,hlt,zzU,qaW,hx,Option.map_some,hcv,hw,hr1,hr2,hln,htk,hap];refine ih (j+1) hlt (by omega) _ _ (Wk.mkd _ _ [0,1,4] ?_ ?_ ?_ rfl (by simp) ?_)
  .simp[vw,qh]
  .simp[vw,mkB,mkC,qx,qe,qq,qn,qh]
  .simp[jD,mkB]
  .intro b hb;have:b=0\/b=1:=by omega
   rcases this with rfl|rfl<;>simp[qhg,rl]
 .have hj':j=p.fams.length:=by omega
  subst hj';simp only[↓vS,vT,simprocAttr,hlt];refine qzF h1 h2 h3 p a nm ot hp (Wk.mkd _ _ [0,1,2] ?_ ?_ ?_ rfl (by simp) ?_)
  .simp[vw]
  .simp[vw,mkB,mkC,qx,qe,qq,qn,qh]
  .simp[jD,mkB]
  .intro b hb;have:b=0\/b=1:=by omega
   rcases this with rfl|rfl<;>simp[qhg,rl]
def qx0{g1 g2 g3:Nat}(hc:qc P f (qbl g1 g2 g3)=true)(h1:qii P g1)(h2:qcP P g2)(h3:∀mode n al dn,qa P g3 [.y mode,.j (n:Nat),.b al,.b dn] (.b (xr mode n al dn))):zZ P f fmM:=by
 intro p a hp hR;refine Upd.mkd hc (by simp[ji,bnd,mkB]) (by simp) ?_;simp only[qbl,mkB,mkC,qx,vI,simprocAttr,zzC,zzN]
 by_cases m:p.fmode=2
 .simp only[↓vS,vT,simprocAttr,m];have e:fmM p a=(xr p.fmode p.fams.length true false,zc a 2147418112 (zr 0 4294967295 327777 p.fams) [xK],2147418112):=by simp[fmM,m]
  rw[e];refine qrE h1 h2 h3 p a 327777 2147418112 hp hR (Wk.mkd _ _ [0,1] ?_ ?_ ?_ rfl (by simp) ?_)
  .simp[vw]
  .simp[vw,mkB,mkC,qx,qe,qq,qn,qh,m]
  .simp[jD,mkB]
  .intro b hb;have:b=0\/b=1:=by omega
   rcases this with rfl|rfl<;>simp[qhg,rl]
 .simp only[↓vS,vT,simprocAttr,m];have e:fmM p a=(xr p.fmode p.fams.length true false,zc a 327777 (zr 0 4294967295 2147418112 p.fams) [xK],2147418112):=by simp[fmM,m]
  rw[e];refine qrE h1 h2 h3 p a 2147418112 327777 hp hR (Wk.mkd _ _ [0,1] ?_ ?_ ?_ rfl (by simp) ?_)
  .simp[vw]
  .simp[vw,mkB,mkC,qx,qe,qq,qn,qh]
  .simp[jD,mkB]
  .intro b hb;have:b=0\/b=1:=by omega
   rcases this with rfl|rfl<;>simp[qhg,rl]
end Go.Kc
end
