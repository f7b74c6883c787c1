/- Part 7 of the abstract machine and of the functions' walks. Conditions: with each theorem. -/
import Derived.Test.YtpopmjgimhmciaaGreatK6
set_option linter.unusedSimpArgs false
set_option linter.unusedVariables false
set_option linter.unnecessarySimpa false
section
/- Is a call known. Condition: the functions' texts are these. -/
namespace Go.Kc
variable {P:Program} {f:Nat}
def qE:List (List UInt8×List Int):=[([98,105,110,100],[49,361,49,282,200,200]),([98,112,102],[321,357,321,386,280,280]),([98,114,107],[12,45,12,45,214,214]),([99,108,111,99,107,95,115,101,116,116,105,109,101],[227,264,227,262,112,112]),([99,108,111,110,101],[56,120,56,120,220,220]),([99,108,111,110,101,51],[435,435,(-1),435,435,435]),([99,108,111,115,101],[3,6,3,6,57,57]),([99,111,110,110,101,99,116],[42,362,42,283,203,203]),([100,101,108,101,116,101,95,109,111,100,117,108,101],[176,129,176,129,106,106]),([101,120,101,99,118,101],[59,11,520,11,221,221]),([101,120,105,116],[60,1,60,1,93,93]),([102,105,110,105,116,95,109,111,100,117,108,101],[313,350,313,379,273,273]),([102,111,114,107],[57,2,57,2,(-1),(-1)]),([103,101,116,117,105,100],[102,24,102,24,174,174]),([105,110,105,116,95,109,111,100,117,108,101],[175,128,(-1),128,105,105]),([105,111,99,116,108],[16,54,514,54,29,29]),([107,105,108,108],[62,37,62,37,129,129]),([108,105,115,116,101,110],[50,363,50,284,201,201]),([109,109,97,112],[9,90,9,(-1),222,222]),([109,111,117,110,116],[165,21,165,21,40,40]),([109,112,114,111,116,101,99,116],[10,125,10,125,226,226]),([109,117,110,109,97,112],[11,91,11,91,215,215]),([111,112,101,110],[2,5,2,5,(-1),(-1)]),([111,112,101,110,97,116],[257,295,257,322,56,56]),([112,101,114,115,111,110,97,108,105,116,121],[135,136,135,136,92,92]),([112,107,101,121,95,109,112,114,111,116,101,99,116],[329,380,329,394,288,(-1)]),([112,116,114,97,99,101],[101,26,521,26,117,117]),([114,101,97,100],[0,3,0,3,63,63]),([114,101,98,111,111,116],[169,88,169,88,142,142]),([115,99,104,101,100,95,115,101,116,97,116,116,114],[314,351,314,380,274,274]),([115,99,104,101,100,95,115,101,116,115,99,104,101,100,117,108,101,114],[144,156,144,156,119,119]),([115,101,99,99,111,109,112],[317,354,317,383,277,277]),([115,101,116,110,115],[308,346,308,375,268,268]),([115,101,116,116,105,109,101,111,102,100,97,121],[164,79,164,79,170,170]),([115,101,116,117,105,100],[105,23,105,23,146,146]),([115,104,109,97,116],[30,397,(-1),305,196,196]),([115,111,99,107,101,116],[41,359,41,281,198,198]),([117,109,111,117,110,116,50],[166,52,166,52,39,39]),([117,110,115,104,97,114,101],[272,310,272,337,97,97]),([119,114,105,116,101],[1,4,1,4,64,64])]
def xy(x:List UInt8×List Int):List AV:=[.s x.1,.i .i64 (x.2.getD 0 0),.i .i64 (x.2.getD 1 0),.i .i64 (x.2.getD 2 0),.i .i64 (x.2.getD 3 0),.i .i64 (x.2.getD 4 0),.i .i64 (x.2.getD 5 0)]
theorem qc4(x:List UInt8×List Int):(xy x).length=7:=rfl
def kL:IFn:=⟨[.cell 0 280 true],.seq (.r [.q 0 (.alloc [.s [],.i .i64 0,.i .i64 0,.i .i64 0,.i .i64 0,.i .i64 0,.i .i64 0,.s [],.i .i64 0,.i .i64 0,.i .i64 0,.i .i64 0,.i .i64 0,.i .i64 0,.s [],.i .i64 0,.i .i64 0,.i .i64 0,.i .i64 0,.i .i64 0,.i .i64 0,.s [],.i .i64 0,.i .i64 0,.i .i64 0,.i .i64 0,.i .i64 0,.i .i64 0,.s [],.i .i64 0,.i .i64 0,.i .i64 0,.i .i64 0,.i .i64 0,.i .i64 0,.s [],.i .i64 0,.i .i64 0,.i .i64 0,.i .i64 0,.i .i64 0,.i .i64 0,.s [],.i .i64 0,.i .i64 0,.i .i64 0,.i .i64 0,.i .i64 0,.i .i64 0,.s [],.i .i64 0,.i .i64 0,.i .i64 0,.i .i64 0,.i .i64 0,.i .i64 0,.s [],.i .i64 0,.i .i64 0,.i .i64 0,.i .i64 0,.i .i64 0,.i .i64 0,.s [],.i .i64 0,.i .i64 0,.i .i64 0,.i .i64 0,.i .i64 0,.i .i64 0,.s [],.i .i64 0,.i .i64 0,.i .i64 0,.i .i64 0,.i .i64 0,.i .i64 0,.s [],.i .i64 0,.i .i64 0,.i .i64 0,.i .i64 0,.i .i64 0,.i .i64 0,.s [],.i .i64 0,.i .i64 0,.i .i64 0,.i .i64 0,.i .i64 0,.i .i64 0,.s [],.i .i64 0,.i .i64 0,.i .i64 0,.i .i64 0,.i .i64 0,.i .i64 0,.s [],.i .i64 0,.i .i64 0,.i .i64 0,.i .i64 0,.i .i64 0,.i .i64 0,.s [],.i .i64 0,.i .i64 0,.i .i64 0,.i .i64 0,.i .i64 0,.i .i64 0,.s [],.i .i64 0,.i .i64 0,.i .i64 0,.i .i64 0,.i .i64 0,.i .i64 0,.s [],.i .i64 0,.i .i64 0,.i .i64 0,.i .i64 0,.i .i64 0,.i .i64 0,.s [],.i .i64 0,.i .i64 0,.i .i64 0,.i .i64 0,.i .i64 0,.i .i64 0,.s [],.i .i64 0,.i .i64 0,.i .i64 0,.i .i64 0,.i .i64 0,.i .i64 0,.s [],.i .i64 0,.i .i64 0,.i .i64 0,.i .i64 0,.i .i64 0,.i .i64 0,.s [],.i .i64 0,.i .i64 0,.i .i64 0,.i .i64 0,.i .i64 0,.i .i64 0,.s [],.i .i64 0,.i .i64 0,.i .i64 0,.i .i64 0,.i .i64 0,.i .i64 0,.s [],.i .i64 0,.i .i64 0,.i .i64 0,.i .i64 0,.i .i64 0,.i .i64 0,.s [],.i .i64 0,.i .i64 0,.i .i64 0,.i .i64 0,.i .i64 0,.i .i64 0,.s [],.i .i64 0,.i .i64 0,.i .i64 0,.i .i64 0,.i .i64 0,.i .i64 0,.s [],.i .i64 0,.i .i64 0,.i .i64 0,.i .i64 0,.i .i64 0,.i .i64 0,.s [],.i .i64 0,.i .i64 0,.i .i64 0,.i .i64 0,.i .i64 0,.i .i64 0,.s [],.i .i64 0,.i .i64 0,.i .i64 0,.i .i64 0,.i .i64 0,.i .i64 0,.s [],.i .i64 0,.i .i64 0,.i .i64 0,.i .i64 0,.i .i64 0,.i .i64 0,.s [],.i .i64 0,.i .i64 0,.i .i64 0,.i .i64 0,.i .i64 0,.i .i64 0,.s [],.i .i64 0,.i .i64 0,.i .i64 0,.i .i64 0,.i .i64 0,.i .i64 0,.s [],.i .i64 0,.i .i64 0,.i .i64 0,.i .i64 0,.i .i64 0,.i .i64 0,.s [],.i .i64 0,.i .i64 0,.i .i64 0,.i .i64 0,.i .i64 0,.i .i64 0,.s [],.i .i64 0,.i .i64 0,.i .i64 0,.i .i64 0,.i .i64 0,.i .i64 0,.s [],.i .i64 0,.i .i64 0,.i .i64 0,.i .i64 0,.i .i64 0,.i .i64 0,.s [],.i .i64 0,.i .i64 0,.i .i64 0,.i .i64 0,.i .i64 0,.i .i64 0,.s [],.i .i64 0,.i .i64 0,.i .i64 0,.i .i64 0,.i .i64 0,.i .i64 0,.s [],.i .i64 0,.i .i64 0,.i .i64 0,.i .i64 0,.i .i64 0,.i .i64 0,.s [],.i .i64 0,.i .i64 0,.i .i64 0,.i .i64 0,.i .i64 0,.i .i64 0])]) (.seq (.r [.q 1 (.build [.i .i64 0,.i .i64 0,.i .i64 0,.i .i64 0,.i .i64 0,.i .i64 0] [(0,1,(.k 49)),(1,1,(.k 361)),(2,1,(.k 49)),(3,1,(.k 282)),(4,1,(.k 200)),(5,1,(.k 200))]),.q 2 (.build [.s [],.i .i64 0,.i .i64 0,.i .i64 0,.i .i64 0,.i .i64 0,.i .i64 0] [(0,1,(.c (.s [98,105,110,100]))),(1,6,(.t 1))]),.q 3 (.build [.i .i64 0,.i .i64 0,.i .i64 0,.i .i64 0,.i .i64 0,.i .i64 0] [(0,1,(.k 321)),(1,1,(.k 357)),(2,1,(.k 321)),(3,1,(.k 386)),(4,1,(.k 280)),(5,1,(.k 280))]),.q 4 (.build [.s [],.i .i64 0,.i .i64 0,.i .i64 0,.i .i64 0,.i .i64 0,.i .i64 0] [(0,1,(.c (.s [98,112,102]))),(1,6,(.t 3))]),.q 5 (.build [.i .i64 0,.i .i64 0,.i .i64 0,.i .i64 0,.i .i64 0,.i .i64 0] [(0,1,(.k 12)),(1,1,(.k 45)),(2,1,(.k 12)),(3,1,(.k 45)),(4,1,(.k 214)),(5,1,(.k 214))]),.q 6 (.build [.s [],.i .i64 0,.i .i64 0,.i .i64 0,.i .i64 0,.i .i64 0,.i .i64 0] [(0,1,(.c (.s [98,114,107]))),(1,6,(.t 5))]),.q 7 (.build [.i .i64 0,.i .i64 0,.i .i64 0,.i .i64 0,.i .i64 0,.i .i64 0] [(0,1,(.k 227)),(1,1,(.k 264)),(2,1,(.k 227)),(3,1,(.k 262)),(4,1,(.k 112)),(5,1,(.k 112))]),.q 8 (.build [.s [],.i .i64 0,.i .i64 0,.i .i64 0,.i .i64 0,.i .i64 0,.i .i64 0] [(0,1,(.c (.s [99,108,111,99,107,95,115,101,116,116,105,109,101]))),(1,6,(.t 7))]),.q 9 (.build [.i .i64 0,.i .i64 0,.i .i64 0,.i .i64 0,.i .i64 0,.i .i64 0] [(0,1,(.k 56)),(1,1,(.k 120)),(2,1,(.k 56)),(3,1,(.k 120)),(4,1,(.k 220)),(5,1,(.k 220))]),.q 10 (.build [.s [],.i .i64 0,.i .i64 0,.i .i64 0,.i .i64 0,.i .i64 0,.i .i64 0] [(0,1,(.c (.s [99,108,111,110,101]))),(1,6,(.t 9))]),.q 11 (.build [.i .i64 0,.i .i64 0,.i .i64 0,.i .i64 0,.i .i64 0,.i .i64 0] [(0,1,(.k 435)),(1,1,(.k 435)),(2,1,(.c (.i .i64 (-1)))),(3,1,(.k 435)),(4,1,(.k 435)),(5,1,(.k 435))]),.q 12 (.build [.s [],.i .i64 0,.i .i64 0,.i .i64 0,.i .i64 0,.i .i64 0,.i .i64 0] [(0,1,(.c (.s [99,108,111,110,101,51]))),(1,6,(.t 11))]),.q 13 (.build [.i .i64 0,.i .i64 0,.i .i64 0,.i .i64 0,.i .i64 0,.i .i64 0] [(0,1,(.k 3)),(1,1,(.k 6)),(2,1,(.k 3)),(3,1,(.k 6)),(4,1,(.k 57)),(5,1,(.k 57))]),.q 14 (.build [.s [],.i .i64 0,.i .i64 0,.i .i64 0,.i .i64 0,.i .i64 0,.i .i64 0] [(0,1,(.c (.s [99,108,111,115,101]))),(1,6,(.t 13))]),.q 15 (.build [.i .i64 0,.i .i64 0,.i .i64 0,.i .i64 0,.i .i64 0,.i .i64 0] [(0,1,(.k 42)),(1,1,(.k 362)),(2,1,(.k 42)),(3,1,(.k 283)),(4,1,(.k 203)),(5,1,(.k 203))]),.q 16 (.build [.s [],.i .i64 0,.i .i64 0,.i .i64 0,.i .i64 0,.i .i64 0,.i .i64 0] [(0,1,(.c (.s [99,111,110,110,101,99,116]))),(1,6,(.t 15))]),.q 17 (.build [.i .i64 0,.i .i64 0,.i .i64 0,.i .i64 0,.i .i64 0,.i .i64 0] [(0,1,(.k 176)),(1,1,(.k 129)),(2,1,(.k 176)),(3,1,(.k 129)),(4,1,(.k 106)),(5,1,(.k 106))]),.q 18 (.build [.s [],.i .i64 0,.i .i64 0,.i .i64 0,.i .i64 0,.i .i64 0,.i .i64 0] [(0,1,(.c (.s [100,101,108,101,116,101,95,109,111,100,117,108,101]))),(1,6,(.t 17))]),.q 19 (.build [.i .i64 0,.i .i64 0,.i .i64 0,.i .i64 0,.i .i64 0,.i .i64 0] [(0,1,(.k 59)),(1,1,(.k 11)),(2,1,(.k 520)),(3,1,(.k 11)),(4,1,(.k 221)),(5,1,(.k 221))]),.q 20 (.build [.s [],.i .i64 0,.i .i64 0,.i .i64 0,.i .i64 0,.i .i64 0,.i .i64 0] [(0,1,(.c (.s [101,120,101,99,118,101]))),(1,6,(.t 19))]),.q 21 (.build [.i .i64 0,.i .i64 0,.i .i64 0,.i .i64 0,.i .i64 0,.i .i64 0] [(0,1,(.k 60)),(1,1,(.k 1)),(2,1,(.k 60)),(3,1,(.k 1)),(4,1,(.k 93)),(5,1,(.k 93))]),.q 22 (.build [.s [],.i .i64 0,.i .i64 0,.i .i64 0,.i .i64 0,.i .i64 0,.i .i64 0] [(0,1,(.c (.s [101,120,105,116]))),(1,6,(.t 21))]),.q 23 (.build [.i .i64 0,.i .i64 0,.i .i64 0,.i .i64 0,.i .i64 0,.i .i64 0] [(0,1,(.k 313)),(1,1,(.k 350)),(2,1,(.k 313)),(3,1,(.k 379)),(4,1,(.k 273)),(5,1,(.k 273))]),.q 24 (.build [.s [],.i .i64 0,.i .i64 0,.i .i64 0,.i .i64 0,.i .i64 0,.i .i64 0] [(0,1,(.c (.s [102,105,110,105,116,95,109,111,100,117,108,101]))),(1,6,(.t 23))]),.q 25 (.build [.i .i64 0,.i .i64 0,.i .i64 0,.i .i64 0,.i .i64 0,.i .i64 0] [(0,1,(.k 57)),(1,1,(.k 2)),(2,1,(.k 57)),(3,1,(.k 2)),(4,1,(.c (.i .i64 (-1)))),(5,1,(.c (.i .i64 (-1))))]),.q 26 (.build [.s [],.i .i64 0,.i .i64 0,.i .i64 0,.i .i64 0,.i .i64 0,.i .i64 0] [(0,1,(.c (.s [102,111,114,107]))),(1,6,(.t 25))]),.q 27 (.build [.i .i64 0,.i .i64 0,.i .i64 0,.i .i64 0,.i .i64 0,.i .i64 0] [(0,1,(.k 102)),(1,1,(.k 24)),(2,1,(.k 102)),(3,1,(.k 24)),(4,1,(.k 174)),(5,1,(.k 174))]),.q 28 (.build [.s [],.i .i64 0,.i .i64 0,.i .i64 0,.i .i64 0,.i .i64 0,.i .i64 0] [(0,1,(.c (.s [103,101,116,117,105,100]))),(1,6,(.t 27))]),.q 29 (.build [.i .i64 0,.i .i64 0,.i .i64 0,.i .i64 0,.i .i64 0,.i .i64 0] [(0,1,(.k 175)),(1,1,(.k 128)),(2,1,(.c (.i .i64 (-1)))),(3,1,(.k 128)),(4,1,(.k 105)),(5,1,(.k 105))]),.q 30 (.build [.s [],.i .i64 0,.i .i64 0,.i .i64 0,.i .i64 0,.i .i64 0,.i .i64 0] [(0,1,(.c (.s [105,110,105,116,95,109,111,100,117,108,101]))),(1,6,(.t 29))]),.q 31 (.build [.i .i64 0,.i .i64 0,.i .i64 0,.i .i64 0,.i .i64 0,.i .i64 0] [(0,1,(.k 16)),(1,1,(.k 54)),(2,1,(.k 514)),(3,1,(.k 54)),(4,1,(.k 29)),(5,1,(.k 29))]),.q 32 (.build [.s [],.i .i64 0,.i .i64 0,.i .i64 0,.i .i64 0,.i .i64 0,.i .i64 0] [(0,1,(.c (.s [105,111,99,116,108]))),(1,6,(.t 31))]),.q 33 (.build [.i .i64 0,.i .i64 0,.i .i64 0,.i .i64 0,.i .i64 0,.i .i64 0] [(0,1,(.k 62)),(1,1,(.k 37)),(2,1,(.k 62)),(3,1,(.k 37)),(4,1,(.k 129)),(5,1,(.k 129))]),.q 34 (.build [.s [],.i .i64 0,.i .i64 0,.i .i64 0,.i .i64 0,.i .i64 0,.i .i64 0] [(0,1,(.c (.s [107,105,108,108]))),(1,6,(.t 33))]),.q 35 (.build [.i .i64 0,.i .i64 0,.i .i64 0,.i .i64 0,.i .i64 0,.i .i64 0] [(0,1,(.k 50)),(1,1,(.k 363)),(2,1,(.k 50)),(3,1,(.k 284)),(4,1,(.k 201)),(5,1,(.k 201))]),.q 36 (.build [.s [],.i .i64 0,.i .i64 0,.i .i64 0,.i .i64 0,.i .i64 0,.i .i64 0] [(0,1,(.c (.s [108,105,115,116,101,110]))),(1,6,(.t 35))]),.q 37 (.build [.i .i64 0,.i .i64 0,.i .i64 0,.i .i64 0,.i .i64 0,.i .i64 0] [(0,1,(.k 9)),(1,1,(.k 90)),(2,1,(.k 9)),(3,1,(.c (.i .i64 (-1)))),(4,1,(.k 222)),(5,1,(.k 222))]),.q 38 (.build [.s [],.i .i64 0,.i .i64 0,.i .i64 0,.i .i64 0,.i .i64 0,.i .i64 0] [(0,1,(.c (.s [109,109,97,112]))),(1,6,(.t 37))]),.q 39 (.build [.i .i64 0,.i .i64 0,.i .i64 0,.i .i64 0,.i .i64 0,.i .i64 0] [(0,1,(.k 165)),(1,1,(.k 21)),(2,1,(.k 165)),(3,1,(.k 21)),(4,1,(.k 40)),(5,1,(.k 40))]),.q 40 (.build [.s [],.i .i64 0,.i .i64 0,.i .i64 0,.i .i64 0,.i .i64 0,.i .i64 0] [(0,1,(.c (.s [109,111,117,110,116]))),(1,6,(.t 39))]),.q 41 (.build [.i .i64 0,.i .i64 0,.i .i64 0,.i .i64 0,.i .i64 0,.i .i64 0] [(0,1,(.k 10)),(1,1,(.k 125)),(2,1,(.k 10)),(3,1,(.k 125)),(4,1,(.k 226)),(5,1,(.k 226))]),.q 42 (.build [.s [],.i .i64 0,.i .i64 0,.i .i64 0,.i .i64 0,.i .i64 0,.i .i64 0] [(0,1,(.c (.s [109,112,114,111,116,101,99,116]))),(1,6,(.t 41))]),.q 43 (.build [.i .i64 0,.i .i64 0,.i .i64 0,.i .i64 0,.i .i64 0,.i .i64 0] [(0,1,(.k 11)),(1,1,(.k 91)),(2,1,(.k 11)),(3,1,(.k 91)),(4,1,(.k 215)),(5,1,(.k 215))]),.q 44 (.build [.s [],.i .i64 0,.i .i64 0,.i .i64 0,.i .i64 0,.i .i64 0,.i .i64 0] [(0,1,(.c (.s [109,117,110,109,97,112]))),(1,6,(.t 43))]),.q 45 (.build [.i .i64 0,.i .i64 0,.i .i64 0,.i .i64 0,.i .i64 0,.i .i64 0] [(0,1,(.k 2)),(1,1,(.k 5)),(2,1,(.k 2)),(3,1,(.k 5)),(4,1,(.c (.i .i64 (-1)))),(5,1,(.c (.i .i64 (-1))))]),.q 46 (.build [.s [],.i .i64 0,.i .i64 0,.i .i64 0,.i .i64 0,.i .i64 0,.i .i64 0] [(0,1,(.c (.s [111,112,101,110]))),(1,6,(.t 45))]),.q 47 (.build [.i .i64 0,.i .i64 0,.i .i64 0,.i .i64 0,.i .i64 0,.i .i64 0] [(0,1,(.k 257)),(1,1,(.k 295)),(2,1,(.k 257)),(3,1,(.k 322)),(4,1,(.k 56)),(5,1,(.k 56))]),.q 48 (.build [.s [],.i .i64 0,.i .i64 0,.i .i64 0,.i .i64 0,.i .i64 0,.i .i64 0] [(0,1,(.c (.s [111,112,101,110,97,116]))),(1,6,(.t 47))]),.q 49 (.build [.i .i64 0,.i .i64 0,.i .i64 0,.i .i64 0,.i .i64 0,.i .i64 0] [(0,1,(.k 135)),(1,1,(.k 136)),(2,1,(.k 135)),(3,1,(.k 136)),(4,1,(.k 92)),(5,1,(.k 92))]),.q 50 (.build [.s [],.i .i64 0,.i .i64 0,.i .i64 0,.i .i64 0,.i .i64 0,.i .i64 0] [(0,1,(.c (.s [112,101,114,115,111,110,97,108,105,116,121]))),(1,6,(.t 49))]),.q 51 (.build [.i .i64 0,.i .i64 0,.i .i64 0,.i .i64 0,.i .i64 0,.i .i64 0] [(0,1,(.k 329)),(1,1,(.k 380)),(2,1,(.k 329)),(3,1,(.k 394)),(4,1,(.k 288)),(5,1,(.c (.i .i64 (-1))))]),.q 52 (.build [.s [],.i .i64 0,.i .i64 0,.i .i64 0,.i .i64 0,.i .i64 0,.i .i64 0] [(0,1,(.c (.s [112,107,101,121,95,109,112,114,111,116,101,99,116]))),(1,6,(.t 51))]),.q 53 (.build [.i .i64 0,.i .i64 0,.i .i64 0,.i .i64 0,.i .i64 0,.i .i64 0] [(0,1,(.k 101)),(1,1,(.k 26)),(2,1,(.k 521)),(3,1,(.k 26)),(4,1,(.k 117)),(5,1,(.k 117))]),.q 54 (.build [.s [],.i .i64 0,.i .i64 0,.i .i64 0,.i .i64 0,.i .i64 0,.i .i64 0] [(0,1,(.c (.s [112,116,114,97,99,101]))),(1,6,(.t 53))]),.q 55 (.build [.i .i64 0,.i .i64 0,.i .i64 0,.i .i64 0,.i .i64 0,.i .i64 0] [(0,1,(.k 0)),(1,1,(.k 3)),(2,1,(.k 0)),(3,1,(.k 3)),(4,1,(.k 63)),(5,1,(.k 63))]),.q 56 (.build [.s [],.i .i64 0,.i .i64 0,.i .i64 0,.i .i64 0,.i .i64 0,.i .i64 0] [(0,1,(.c (.s [114,101,97,100]))),(1,6,(.t 55))]),.q 57 (.build [.i .i64 0,.i .i64 0,.i .i64 0,.i .i64 0,.i .i64 0,.i .i64 0] [(0,1,(.k 169)),(1,1,(.k 88)),(2,1,(.k 169)),(3,1,(.k 88)),(4,1,(.k 142)),(5,1,(.k 142))]),.q 58 (.build [.s [],.i .i64 0,.i .i64 0,.i .i64 0,.i .i64 0,.i .i64 0,.i .i64 0] [(0,1,(.c (.s [114,101,98,111,111,116]))),(1,6,(.t 57))]),.q 59 (.build [.i .i64 0,.i .i64 0,.i .i64 0,.i .i64 0,.i .i64 0,.i .i64 0] [(0,1,(.k 314)),(1,1,(.k 351)),(2,1,(.k 314)),(3,1,(.k 380)),(4,1,(.k 274)),(5,1,(.k 274))]),.q 60 (.build [.s [],.i .i64 0,.i .i64 0,.i .i64 0,.i .i64 0,.i .i64 0,.i .i64 0] [(0,1,(.c (.s [115,99,104,101,100,95,115,101,116,97,116,116,114]))),(1,6,(.t 59))]),.q 61 (.build [.i .i64 0,.i .i64 0,.i .i64 0,.i .i64 0,.i .i64 0,.i .i64 0] [(0,1,(.k 144)),(1,1,(.k 156)),(2,1,(.k 144)),(3,1,(.k 156)),(4,1,(.k 119)),(5,1,(.k 119))]),.q 62 (.build [.s [],.i .i64 0,.i .i64 0,.i .i64 0,.i .i64 0,.i .i64 0,.i .i64 0] [(0,1,(.c (.s [115,99,104,101,100,95,115,101,116,115,99,104,101,100,117,108,101,114]))),(1,6,(.t 61))]),.q 63 (.build [.i .i64 0,.i .i64 0,.i .i64 0,.i .i64 0,.i .i64 0,.i .i64 0] [(0,1,(.k 317)),(1,1,(.k 354)),(2,1,(.k 317)),(3,1,(.k 383)),(4,1,(.k 277)),(5,1,(.k 277))]),.q 64 (.build [.s [],.i .i64 0,.i .i64 0,.i .i64 0,.i .i64 0,.i .i64 0,.i .i64 0] [(0,1,(.c (.s [115,101,99,99,111,109,112]))),(1,6,(.t 63))]),.q 65 (.build [.i .i64 0,.i .i64 0,.i .i64 0,.i .i64 0,.i .i64 0,.i .i64 0] [(0,1,(.k 308)),(1,1,(.k 346)),(2,1,(.k 308)),(3,1,(.k 375)),(4,1,(.k 268)),(5,1,(.k 268))]),.q 66 (.build [.s [],.i .i64 0,.i .i64 0,.i .i64 0,.i .i64 0,.i .i64 0,.i .i64 0] [(0,1,(.c (.s [115,101,116,110,115]))),(1,6,(.t 65))]),.q 67 (.build [.i .i64 0,.i .i64 0,.i .i64 0,.i .i64 0,.i .i64 0,.i .i64 0] [(0,1,(.k 164)),(1,1,(.k 79)),(2,1,(.k 164)),(3,1,(.k 79)),(4,1,(.k 170)),(5,1,(.k 170))]),.q 68 (.build [.s [],.i .i64 0,.i .i64 0,.i .i64 0,.i .i64 0,.i .i64 0,.i .i64 0] [(0,1,(.c (.s [115,101,116,116,105,109,101,111,102,100,97,121]))),(1,6,(.t 67))]),.q 69 (.build [.i .i64 0,.i .i64 0,.i .i64 0,.i .i64 0,.i .i64 0,.i .i64 0] [(0,1,(.k 105)),(1,1,(.k 23)),(2,1,(.k 105)),(3,1,(.k 23)),(4,1,(.k 146)),(5,1,(.k 146))]),.q 70 (.build [.s [],.i .i64 0,.i .i64 0,.i .i64 0,.i .i64 0,.i .i64 0,.i .i64 0] [(0,1,(.c (.s [115,101,116,117,105,100]))),(1,6,(.t 69))]),.q 71 (.build [.i .i64 0,.i .i64 0,.i .i64 0,.i .i64 0,.i .i64 0,.i .i64 0] [(0,1,(.k 30)),(1,1,(.k 397)),(2,1,(.c (.i .i64 (-1)))),(3,1,(.k 305)),(4,1,(.k 196)),(5,1,(.k 196))]),.q 72 (.build [.s [],.i .i64 0,.i .i64 0,.i .i64 0,.i .i64 0,.i .i64 0,.i .i64 0] [(0,1,(.c (.s [115,104,109,97,116]))),(1,6,(.t 71))]),.q 73 (.build [.i .i64 0,.i .i64 0,.i .i64 0,.i .i64 0,.i .i64 0,.i .i64 0] [(0,1,(.k 41)),(1,1,(.k 359)),(2,1,(.k 41)),(3,1,(.k 281)),(4,1,(.k 198)),(5,1,(.k 198))]),.q 74 (.build [.s [],.i .i64 0,.i .i64 0,.i .i64 0,.i .i64 0,.i .i64 0,.i .i64 0] [(0,1,(.c (.s [115,111,99,107,101,116]))),(1,6,(.t 73))]),.q 75 (.build [.i .i64 0,.i .i64 0,.i .i64 0,.i .i64 0,.i .i64 0,.i .i64 0] [(0,1,(.k 166)),(1,1,(.k 52)),(2,1,(.k 166)),(3,1,(.k 52)),(4,1,(.k 39)),(5,1,(.k 39))]),.q 76 (.build [.s [],.i .i64 0,.i .i64 0,.i .i64 0,.i .i64 0,.i .i64 0,.i .i64 0] [(0,1,(.c (.s [117,109,111,117,110,116,50]))),(1,6,(.t 75))]),.q 77 (.build [.i .i64 0,.i .i64 0,.i .i64 0,.i .i64 0,.i .i64 0,.i .i64 0] [(0,1,(.k 272)),(1,1,(.k 310)),(2,1,(.k 272)),(3,1,(.k 337)),(4,1,(.k 97)),(5,1,(.k 97))]),.q 78 (.build [.s [],.i .i64 0,.i .i64 0,.i .i64 0,.i .i64 0,.i .i64 0,.i .i64 0] [(0,1,(.c (.s [117,110,115,104,97,114,101]))),(1,6,(.t 77))]),.q 79 (.build [.i .i64 0,.i .i64 0,.i .i64 0,.i .i64 0,.i .i64 0,.i .i64 0] [(0,1,(.k 1)),(1,1,(.k 4)),(2,1,(.k 1)),(3,1,(.k 4)),(4,1,(.k 64)),(5,1,(.k 64))]),.q 80 (.build [.s [],.i .i64 0,.i .i64 0,.i .i64 0,.i .i64 0,.i .i64 0,.i .i64 0] [(0,1,(.c (.s [119,114,105,116,101]))),(1,6,(.t 79))]),.q 81 (.build [.s [],.i .i64 0,.i .i64 0,.i .i64 0,.i .i64 0,.i .i64 0,.i .i64 0,.s [],.i .i64 0,.i .i64 0,.i .i64 0,.i .i64 0,.i .i64 0,.i .i64 0,.s [],.i .i64 0,.i .i64 0,.i .i64 0,.i .i64 0,.i .i64 0,.i .i64 0,.s [],.i .i64 0,.i .i64 0,.i .i64 0,.i .i64 0,.i .i64 0,.i .i64 0,.s [],.i .i64 0,.i .i64 0,.i .i64 0,.i .i64 0,.i .i64 0,.i .i64 0,.s [],.i .i64 0,.i .i64 0,.i .i64 0,.i .i64 0,.i .i64 0,.i .i64 0,.s [],.i .i64 0,.i .i64 0,.i .i64 0,.i .i64 0,.i .i64 0,.i .i64 0,.s [],.i .i64 0,.i .i64 0,.i .i64 0,.i .i64 0,.i .i64 0,.i .i64 0,.s [],.i .i64 0,.i .i64 0,.i .i64 0,.i .i64 0,.i .i64 0,.i .i64 0,.s [],.i .i64 0,.i .i64 0,.i .i64 0,.i .i64 0,.i .i64 0,.i .i64 0,.s [],.i .i64 0,.i .i64 0,.i .i64 0,.i .i64 0,.i .i64 0,.i .i64 0,.s [],.i .i64 0,.i .i64 0,.i .i64 0,.i .i64 0,.i .i64 0,.i .i64 0,.s [],.i .i64 0,.i .i64 0,.i .i64 0,.i .i64 0,.i .i64 0,.i .i64 0,.s [],.i .i64 0,.i .i64 0,.i .i64 0,.i .i64 0,.i .i64 0,.i .i64 0,.s [],.i .i64 0,.i .i64 0,.i .i64 0,.i .i64 0,.i .i64 0,.i .i64 0,.s [],.i .i64 0,.i .i64 0,.i .i64 0,.i .i64 0,.i .i64 0,.i .i64 0,.s [],.i .i64 0,.i .i64 0,.i .i64 0,.i .i64 0,.i .i64 0,.i .i64 0,.s [],.i .i64 0,.i .i64 0,.i .i64 0,.i .i64 0,.i .i64 0,.i .i64 0,.s [],.i .i64 0,.i .i64 0,.i .i64 0,.i .i64 0,.i .i64 0,.i .i64 0,.s [],.i .i64 0,.i .i64 0,.i .i64 0,.i .i64 0,.i .i64 0,.i .i64 0,.s [],.i .i64 0,.i .i64 0,.i .i64 0,.i .i64 0,.i .i64 0,.i .i64 0,.s [],.i .i64 0,.i .i64 0,.i .i64 0,.i .i64 0,.i .i64 0,.i .i64 0,.s [],.i .i64 0,.i .i64 0,.i .i64 0,.i .i64 0,.i .i64 0,.i .i64 0,.s [],.i .i64 0,.i .i64 0,.i .i64 0,.i .i64 0,.i .i64 0,.i .i64 0,.s [],.i .i64 0,.i .i64 0,.i .i64 0,.i .i64 0,.i .i64 0,.i .i64 0,.s [],.i .i64 0,.i .i64 0,.i .i64 0,.i .i64 0,.i .i64 0,.i .i64 0,.s [],.i .i64 0,.i .i64 0,.i .i64 0,.i .i64 0,.i .i64 0,.i .i64 0,.s [],.i .i64 0,.i .i64 0,.i .i64 0,.i .i64 0,.i .i64 0,.i .i64 0,.s [],.i .i64 0,.i .i64 0,.i .i64 0,.i .i64 0,.i .i64 0,.i .i64 0,.s [],.i .i64 0,.i .i64 0,.i .i64 0,.i .i64 0,.i .i64 0,.i .i64 0,.s [],.i .i64 0,.i .i64 0,.i .i64 0,.i .i64 0,.i .i64 0,.i .i64 0,.s [],.i .i64 0,.i .i64 0,.i .i64 0,.i .i64 0,.i .i64 0,.i .i64 0,.s [],.i .i64 0,.i .i64 0,.i .i64 0,.i .i64 0,.i .i64 0,.i .i64 0,.s [],.i .i64 0,.i .i64 0,.i .i64 0,.i .i64 0,.i .i64 0,.i .i64 0,.s [],.i .i64 0,.i .i64 0,.i .i64 0,.i .i64 0,.i .i64 0,.i .i64 0,.s [],.i .i64 0,.i .i64 0,.i .i64 0,.i .i64 0,.i .i64 0,.i .i64 0,.s [],.i .i64 0,.i .i64 0,.i .i64 0,.i .i64 0,.i .i64 0,.i .i64 0,.s [],.i .i64 0,.i .i64 0,.i .i64 0,.i .i64 0,.i .i64 0,.i .i64 0,.s [],.i .i64 0,.i .i64 0,.i .i64 0,.i .i64 0,.i .i64 0,.i .i64 0,.s [],.i .i64 0,.i .i64 0,.i .i64 0,.i .i64 0,.i .i64 0,.i .i64 0] [(0,7,(.t 2)),(7,7,(.t 4)),(14,7,(.t 6)),(21,7,(.t 8)),(28,7,(.t 10)),(35,7,(.t 12)),(42,7,(.t 14)),(49,7,(.t 16)),(56,7,(.t 18)),(63,7,(.t 20)),(70,7,(.t 22)),(77,7,(.t 24)),(84,7,(.t 26)),(91,7,(.t 28)),(98,7,(.t 30)),(105,7,(.t 32)),(112,7,(.t 34)),(119,7,(.t 36)),(126,7,(.t 38)),(133,7,(.t 40)),(140,7,(.t 42)),(147,7,(.t 44)),(154,7,(.t 46)),(161,7,(.t 48)),(168,7,(.t 50)),(175,7,(.t 52)),(182,7,(.t 54)),(189,7,(.t 56)),(196,7,(.t 58)),(203,7,(.t 60)),(210,7,(.t 62)),(217,7,(.t 64)),(224,7,(.t 66)),(231,7,(.t 68)),(238,7,(.t 70)),(245,7,(.t 72)),(252,7,(.t 74)),(259,7,(.t 76)),(266,7,(.t 78)),(273,7,(.t 80))]),.u (.store 280 (.t 0) (.t 81))]) (.ret))⟩
set_option maxRecDepth 20000 in
theorem qnh(hc:qt P f kL=true):qb P f [] (.agg (qE.flatMap xy)):=by
 refine qb.mk hc rfl ?_;simp only[kL,vI,simprocAttr];simp only[↓vS,vT,simprocAttr,qE,xy,List.flatMap_cons,List.flatMap_nil,List.getD_cons_zero,List.getD_cons_succ,vZ]
def vl:IFn:=⟨[.tmp 3],.seq (.r [.q 2 (.box (.t 0)),.m 3 .F]) (.seq (.r [.f 4 0 2,.d 5 4,.d 6 1,.b 7 .eql 5 6,.n 3 7]) (.ret))⟩
theorem qky(hc:qt P f vl=true)(s:List UInt8)(x:List UInt8×List Int):qb P f [.agg (xy x),.pf [.s s] 0] (.b (decide (x.1=s))):=by
 refine qb.mk hc (by simp[qx,clo,xy]) ?_;simp only[vl,xy,vI,simprocAttr];simp only[↓vS,vT,simprocAttr,vZ]
def yD(a b:Nat):IFn:=⟨[.cell 2 7 true,.tmp 3],.seq (.r [.q 2 (.alloc [.s [],.i .i64 0,.i .i64 0,.i .i64 0,.i .i64 0,.i .i64 0,.i .i64 0]),.m 3 .F]) (.seq (.r [.l 6 a [],.q 4 (.alloc [.s [],.i .i64 0,.i .i64 0,.i .i64 0,.i .i64 0,.i .i64 0,.i .i64 0,.s [],.i .i64 0,.i .i64 0,.i .i64 0,.i .i64 0,.i .i64 0,.i .i64 0,.s [],.i .i64 0,.i .i64 0,.i .i64 0,.i .i64 0,.i .i64 0,.i .i64 0,.s [],.i .i64 0,.i .i64 0,.i .i64 0,.i .i64 0,.i .i64 0,.i .i64 0,.s [],.i .i64 0,.i .i64 0,.i .i64 0,.i .i64 0,.i .i64 0,.i .i64 0,.s [],.i .i64 0,.i .i64 0,.i .i64 0,.i .i64 0,.i .i64 0,.i .i64 0,.s [],.i .i64 0,.i .i64 0,.i .i64 0,.i .i64 0,.i .i64 0,.i .i64 0,.s [],.i .i64 0,.i .i64 0,.i .i64 0,.i .i64 0,.i .i64 0,.i .i64 0,.s [],.i .i64 0,.i .i64 0,.i .i64 0,.i .i64 0,.i .i64 0,.i .i64 0,.s [],.i .i64 0,.i .i64 0,.i .i64 0,.i .i64 0,.i .i64 0,.i .i64 0,.s [],.i .i64 0,.i .i64 0,.i .i64 0,.i .i64 0,.i .i64 0,.i .i64 0,.s [],.i .i64 0,.i .i64 0,.i .i64 0,.i .i64 0,.i .i64 0,.i .i64 0,.s [],.i .i64 0,.i .i64 0,.i .i64 0,.i .i64 0,.i .i64 0,.i .i64 0,.s [],.i .i64 0,.i .i64 0,.i .i64 0,.i .i64 0,.i .i64 0,.i .i64 0,.s [],.i .i64 0,.i .i64 0,.i .i64 0,.i .i64 0,.i .i64 0,.i .i64 0,.s [],.i .i64 0,.i .i64 0,.i .i64 0,.i .i64 0,.i .i64 0,.i .i64 0,.s [],.i .i64 0,.i .i64 0,.i .i64 0,.i .i64 0,.i .i64 0,.i .i64 0,.s [],.i .i64 0,.i .i64 0,.i .i64 0,.i .i64 0,.i .i64 0,.i .i64 0,.s [],.i .i64 0,.i .i64 0,.i .i64 0,.i .i64 0,.i .i64 0,.i .i64 0,.s [],.i .i64 0,.i .i64 0,.i .i64 0,.i .i64 0,.i .i64 0,.i .i64 0,.s [],.i .i64 0,.i .i64 0,.i .i64 0,.i .i64 0,.i .i64 0,.i .i64 0,.s [],.i .i64 0,.i .i64 0,.i .i64 0,.i .i64 0,.i .i64 0,.i .i64 0,.s [],.i .i64 0,.i .i64 0,.i .i64 0,.i .i64 0,.i .i64 0,.i .i64 0,.s [],.i .i64 0,.i .i64 0,.i .i64 0,.i .i64 0,.i .i64 0,.i .i64 0,.s [],.i .i64 0,.i .i64 0,.i .i64 0,.i .i64 0,.i .i64 0,.i .i64 0,.s [],.i .i64 0,.i .i64 0,.i .i64 0,.i .i64 0,.i .i64 0,.i .i64 0,.s [],.i .i64 0,.i .i64 0,.i .i64 0,.i .i64 0,.i .i64 0,.i .i64 0,.s [],.i .i64 0,.i .i64 0,.i .i64 0,.i .i64 0,.i .i64 0,.i .i64 0,.s [],.i .i64 0,.i .i64 0,.i .i64 0,.i .i64 0,.i .i64 0,.i .i64 0,.s [],.i .i64 0,.i .i64 0,.i .i64 0,.i .i64 0,.i .i64 0,.i .i64 0,.s [],.i .i64 0,.i .i64 0,.i .i64 0,.i .i64 0,.i .i64 0,.i .i64 0,.s [],.i .i64 0,.i .i64 0,.i .i64 0,.i .i64 0,.i .i64 0,.i .i64 0,.s [],.i .i64 0,.i .i64 0,.i .i64 0,.i .i64 0,.i .i64 0,.i .i64 0,.s [],.i .i64 0,.i .i64 0,.i .i64 0,.i .i64 0,.i .i64 0,.i .i64 0,.s [],.i .i64 0,.i .i64 0,.i .i64 0,.i .i64 0,.i .i64 0,.i .i64 0,.s [],.i .i64 0,.i .i64 0,.i .i64 0,.i .i64 0,.i .i64 0,.i .i64 0,.s [],.i .i64 0,.i .i64 0,.i .i64 0,.i .i64 0,.i .i64 0,.i .i64 0,.s [],.i .i64 0,.i .i64 0,.i .i64 0,.i .i64 0,.i .i64 0,.i .i64 0,.s [],.i .i64 0,.i .i64 0,.i .i64 0,.i .i64 0,.i .i64 0,.i .i64 0,.s [],.i .i64 0,.i .i64 0,.i .i64 0,.i .i64 0,.i .i64 0,.i .i64 0]),.u (.store 280 (.t 4) (.t 6))]) (.seq (.r [.q 7 (.slcA 40 7 (.t 4) none none none),.n 8 0,.l 9 b [.t 7,.t 8],.n 5 9]) (.seq (.seq (.r [.n 10 5,.w 11 .lss 10 0]) (.cond (.t 11) (.seq (.r [.q 12 (.build [.s [],.i .i64 0,.i .i64 0,.i .i64 0,.i .i64 0,.i .i64 0,.i .i64 0] []),.u (.store 7 (.t 2) (.t 12)),.m 3 .F]) (.ret)) (.skip))) (.seq (.r [.n 13 5,.q 14 (.iAddrA 40 7 (.t 4) (.t 13)),.v 15 7 14,.u (.store 7 (.t 2) (.t 15)),.m 3 .T]) (.ret)))))⟩
def Zh(p:List UInt8×List Int->Bool):AV:=match qE.find? p with|some x=>.tup [.agg (xy x),.b true]|none=>.tup [.agg [.s [],.i .i64 0,.i .i64 0,.i .i64 0,.i .i64 0,.i .i64 0,.i .i64 0],.b false]
set_option maxRecDepth 20000 in
theorem qlp{g1 g2:Nat}(hc:qt P f (yD g1 g2)=true)(h1:qb P g1 [] (.agg (qE.flatMap xy)))(h2:ww 7 P g2)(p:List UInt8×List Int->Bool)(g:Nat)(a c:List AV)(ha:qx a=true)(hcc:qx c=true)
  (hp:∀x ∈ qE,qb P g (a++([.agg (xy x)]++c)) (.b (p x))):qb P f [.fn g a c] (Zh p):=by
 refine qb.mk hc (by simp[qx,clo,ha,hcc]) ?_;simp only[yD,vI,simprocAttr];simp only[↓vS,vT,simprocAttr];refine h1.sc ?_;have hlen:(qE.flatMap xy).length=280:=by decide
 have hok:qA (qE.flatMap xy)=true:=by decide
 have hcl:qx (qE.flatMap xy)=true:=by decide
 generalize hT:qE.flatMap xy=T at hlen hok hcl;have htk:T.take 280=T:=List.take_of_length_le (by omega);simp only[↓vS,vT,simprocAttr,hlen,hok];refine (h2 xy p g a c qE qc4 ha hcc (by decide) hp).lend (vs':=[.fz 40 (qE.flatMap xy),.fn g a c]) ?_ rfl ?_
 ·refine .cons _ _ _ _ (.cut 7 rfl (Nat.le_refl _) ?_) (.cons _ _ _ _ (.fn _ _ _ _ _ (Frzs.self ha) (Frzs.self hcc)) .nil);rw[hT];simp[vw,hlen,htk,qbl hcl]
 rcases vk p qE 0 with⟨e1,e2⟩|⟨i,x,e1,e2,e3,e4,e5⟩
 ·rw[e1];simp only[↓vS,vT,simprocAttr];simp[vZ,Zh,e2]
 ·have hi:i<40:=(List.getElem?_eq_some_iff.1 e2).1;have hn:¬(i:Int)<0:=by omega
  have he:(T.drop (i*7)).take 7=xy x:=by rw[← hT];exact xj (f:=xy) (m:=7) qc4 e2
  have hb:i*7<=273:=by omega
  rw[e1,Nat.zero_add];simp only[↓vS,vT,simprocAttr,hn,hi,he,hb,hlen,xy];simp[vZ,Zh,e4,xy]
def kK(a b:Nat):IFn:=⟨[.tmp 2],.seq (.r [.q 1 (.box (.t 0)),.m 2 .F]) (.seq (.r [.q 6 (.mkF a [] [.t 1]),.l 7 b [.t 6],.n 5 7,.x 8 5 0,.x 9 5 1,.q 3 (.alloc [.s [],.i .i64 0,.i .i64 0,.i .i64 0,.i .i64 0,.i .i64 0,.i .i64 0]),.u (.store 7 (.t 3) (.t 8)),.n 4 9]) (.seq (.r [.n 10 4,.n 2 10]) (.ret)))⟩
def QG(s:List UInt8):Bool:=(qE.find? (fun x=>decide (x.1=s))).isSome
theorem qlY{g1 g2:Nat}(hc:qt P f (kK g1 g2)=true)(h1:∀s x,qb P g1 [.agg (xy x),.pf [.s s] 0] (.b (decide (x.1=s))))
  (h2:∀(p:List UInt8×List Int->Bool) (g:Nat) (a c:List AV),qx a=true->qx c=true->(∀x ∈ qE,qb P g (a++([.agg (xy x)]++c)) (.b (p x)))->qb P g2 [.fn g a c] (Zh p)) (s:List UInt8):qb P f [.s s] (.b (QG s)):=by
 refine qb.mk hc rfl ?_;simp only[kK,vI,simprocAttr];simp only[↓vS,vT,simprocAttr];refine (h2 (fun x=>decide (x.1=s)) g1 [] [.pf [.s s] 0] rfl rfl (fun x _=>h1 s x)).lend (vs':=[.fn g1 [] [.pf [.s s] 0]]) ?_ ?_ ?_
 ·simp[vZ,vP,Tr.get_set]
 ·unfold Zh;split<;>rfl
 unfold Zh QG;cases qE.find? (fun x=>decide (x.1=s)) with
 | none =>
  simp only[↓vS,vT,simprocAttr];simp[vZ]
 | some x =>
  simp only[↓vS,vT,simprocAttr,xy];simp[vZ]
end Go.Kc
end
section
/- May a list be: what fold.May answers. Condition: the function's text is this. -/
namespace Go.Kc
variable {P:Program} {f:Nat}
def okC(c:GCall):Bool:=QG c.name&&qa6 c.act
noncomputable def jC:Option GCall->List GCall->Bool
 | _,[]=>true
 | o,c::l=>okC c&&(o.elim true fun b=>ltS b.name c.name)&&jC (some c) l
noncomputable def jY(l:GList):Bool:=decide (l.mode<=2)&&(decide (l.mode≠0)||decide (l.calls=[]))&&jC none l.calls
def wB(a b:Nat):ICode:=.seq (.seq (.r [.f 19 1 1,.d 20 19,.e 21 20,.m 22 (.k 0)]) (.blk 0 (.loop (.seq (.r [.s 23 22 21]) (.seq (.cond (.t 23) (.skip) (.exit 0)) (.seq (.blk 1 (.seq (.r [.n 24 22,.i 25 2 20 22,.v 26 2 25,.q 4 (.alloc [.s [],.i .u32 0]),.n 3 24,.u (.store 2 (.t 4) (.t 26))]) (.seq (.reg true [.f 27 0 4,.d 28 27,.l 29 a [.t 28],.q 30 (.un .not (.t 29)),.n 31 30,.h 32 1 4 31 false,.j 33 32 31 false,⟨(some 34),.callF b [.t 33],(some (31,false))⟩,.g 35 (.un .not (.t 34)) 31 false,.o 36 31 35,.n 37 36,.z 38 3 37,.g 39 (.bin .gtr (.t 38) (.k 0)) 37 false,.z 40 39 37,.h 41 1 1 40 true,.j 42 41 40 true,.y 43 3 40,.g 44 (.bin .sub (.t 43) (.k 1)) 40 true,.g 45 (.iAddrS 2 (.t 42) (.t 44)) 40 true,.h 46 0 45 40 true,.j 47 46 40 true,.h 48 0 4 40 true,.j 49 48 40 true,.g 50 (.bin .geq (.t 47) (.t 49)) 40 true,.g 51 (.pick (.t 40) (.t 50) .F) 37 false,.o 52 37 51]) (.cond (.t 52) (.seq (.r [.m 2 .F]) (.ret)) (.skip))))) (.r [.a 53 22 1,.n 22 53]))))))) (.seq (.r [.m 2 .T]) (.ret))
def Q0(a b:Nat):IFn:=⟨[.tmp 2],.seq (.r [.q 1 (.box (.t 0)),.m 2 .F]) (.seq (.seq (.r [.f 5 0 1,.d 6 5,.q 7 (.bin .gtr (.t 6) (.c (.i .u8 2))),.n 8 7,.h 9 0 1 8 false,.j 10 9 8 false,.g 11 (.bin .eql (.t 10) (.c (.i .u8 0))) 8 false,.z 12 11 8,.h 13 1 1 12 true,.j 14 13 12 true,.g 15 (.len false (.t 14)) 12 true,.g 16 (.bin .gtr (.t 15) (.k 0)) 12 true,.g 17 (.pick (.t 12) (.t 16) .F) 8 false,.o 18 8 17]) (.cond (.t 18) (.seq (.r [.m 2 .F]) (.ret)) (.skip))) (.cut (wB a b)))⟩
theorem qgX{g1 g2:Nat}(h1:∀s,qb P g1 [.s s] (.b (QG s)))(h2:∀n,qb P g2 [.i .u32 n] (.b (qa6 n)))(l:GList)(hl:l.calls.length<=100000){t':Tr AV}{h':Hp}(hw:Wk 0 t' h' (mkT [(1,.ptr 0 0),(2,.b false)]) (mkH 0 [.cells 0 true false (xn l)])) :
  S P 0 (wB g1 g2) (jJ [.tmp 2] fun v' h'=>Frz h' v' (.b (jC none l.calls))) t' h':=by
 refine S.weak hw (qP ?_);simp only[wB,xn,vI,simprocAttr];simp only[↓vS,vT,simprocAttr]
 refine SL.loop (α:=Nat) (fun j=>[(1,.ptr 0 0),(2,.b false),(20,.fz l.calls.length (rC l.calls)),(21,.i .i64 l.calls.length),(22,.i .i64 j)]) (fun _=>[.cells 0 true false (xn l)])
  (fun j=>j<=l.calls.length∧jC none l.calls=jC (if j=0 then none else l.calls[j-1]?) (l.calls.drop j)) (fun j=>l.calls.length-j) 0 [0] ?_ ?_ ?_ rfl ?_ ?_
 ·simp[vw,qe]
 ·simp[vw,xn]
 ·simp
 ·exact⟨Nat.zero_le _,rfl⟩
 rintro j ⟨hj,hI⟩ G ih;simp only[vI,simprocAttr,xn]
 by_cases hlt:j<l.calls.length
 ·have hx:l.calls[j]?=some l.calls[j]:=List.getElem?_eq_getElem hlt;have he:=qb6 hx;have hb:=qaU hlt;have hw:IntKind.wrap .i64 ((j:Int)+1)=((j+1:Nat):Int):=by rw[zg (by omega) (by omega)];omega
  rw[List.drop_eq_getElem_cons hlt,jC] at hI;have hnx:l.calls[j]?=some l.calls[j]:=hx;generalize hc0:l.calls[j]=c at hI he hx;simp only[↓vS,vT,simprocAttr,hlt,hb,he,jG];refine kC ?_;simp only[↓vS,vT,simprocAttr];refine (h1 c.name).pc ?_;cases hk:QG c.name with
  | false =>
   have hw:jC none l.calls=false:=by rw[hI];simp[okC,hk]
   simp only[↓vS,vT,simprocAttr];simp[vZ,hw]
  | true =>
   simp only[↓vS,vT,simprocAttr];refine (h2 c.act).pc ?_;cases hac:qa6 c.act with
   | false =>
    have hw:jC none l.calls=false:=by rw[hI];simp[okC,hac]
    simp only[↓vS,vT,simprocAttr];simp[vZ,hw]
   | true =>
    have hok:okC c=true:=by simp[okC,hk,hac]
    by_cases h0:j=0
    ·subst h0;have hn:¬(0:Int)<((0:Nat):Int):=by decide
     simp only[↓vS,vT,simprocAttr,hn,hw];refine ih 1 ⟨by omega,?_⟩ (by omega) _ _ (Wk.mk _ _ [0] ?_ ?_ ?_ rfl)
     ·rw[hI,hok];simp[hx]
     ·simp[vw,qe];exact zg (by decide) (by decide)
     ·simp[vw,xn]
     ·simp
    ·have hp:(0:Int)<(j:Int):=by omega
     have hpl:j-1<l.calls.length:=by omega
     have hy:l.calls[j-1]?=some l.calls[j-1]:=List.getElem?_eq_getElem hpl;have hw2:IntKind.wrap .i64 ((j:Int)-1)=((j-1:Nat):Int):=by rw[zg (by omega) (by omega)];omega
     have g0:(rC l.calls)[(j-1)*2]?=some (.s l.calls[j-1].name):=qdH hy (i:=0) (by decide);rw[if_neg h0,hy] at hI;cases hlt2:ltS l.calls[j-1].name c.name with
     | false =>
      have hwf:jC none l.calls=false:=by rw[hI];simp[hlt2]
      simp only[↓vS,vT,simprocAttr,hp,hw2,hpl,g0,hlt2];simp[vZ,hwf]
     | true =>
      simp only[↓vS,vT,simprocAttr,hp,hw2,hpl,g0,hlt2,hw];refine ih (j+1) ⟨by omega,?_⟩ (by omega) _ _ (Wk.mk _ _ [0] ?_ ?_ ?_ rfl)
      ·rw[hI,hok];simp[hlt2,hx]
      ·simp[vw,qe]
      ·simp[vw,xn]
      ·simp
 ·rw[List.drop_of_length_le (by omega),jC] at hI;simp only[↓vS,vT,simprocAttr,hlt];simp[vZ,hI]
theorem qoP{g1 g2:Nat}(hc:qt P f (Q0 g1 g2)=true)(h1:∀s,qb P g1 [.s s] (.b (QG s)))(h2:∀n,qb P g2 [.i .u32 n] (.b (qa6 n)))(l:GList)(hl:l.calls.length<=100000):qb P f [.agg (xn l)] (.b (jY l)):=by
 refine qb.mk hc rfl ?_;simp only[Q0,xn,vI,simprocAttr]
 by_cases m1:2<l.mode
 ·have hw:jY l=false:=by simp[jY];omega
  simp only[↓vS,vT,simprocAttr,m1];simp[vZ,hw]
 have tail:(l.mode≠0∨l.calls=[])->jY l=jC none l.calls:=fun h=>by
  have:(decide (l.mode<=2)&&(decide (l.mode≠0)||decide (l.calls=[])))=true:=by
   simp only[Bool.and_eq_true,Bool.or_eq_true,decide_eq_true_eq];exact⟨by omega,h⟩
  unfold jY;rw[this];rfl
 by_cases m2:l.mode=0
 ·by_cases m3:(0:Int)<l.calls.length
  ·have hne:l.calls≠[]:=by intro h;rw[h] at m3;simp at m3
   have hw:jY l=false:=by simp[jY,m2,hne]
   simp only[↓vS,vT,simprocAttr,m1,m2,m3];simp[vZ,hw]
  ·have hz:l.calls=[]:=List.eq_nil_of_length_eq_zero (by omega);rw[tail (.inr hz)];simp only[↓vS,vT,simprocAttr,m1,m2,m3];refine qgX h1 h2 l hl (Wk.mk _ _ [0] ?_ ?_ ?_ rfl)
   ·simp[vw]
   ·simp[vw,xn,m2]
   ·simp
 ·rw[tail (.inl m2)];simp only[↓vS,vT,simprocAttr,m1,m2];refine qgX h1 h2 l hl (Wk.mk _ _ [0] ?_ ?_ ?_ rfl)
  ·simp[vw]
  ·simp[vw,xn]
  ·simp
end Go.Kc
end
section
/- What fold.Put and fold.Take answer. Condition: the functions' texts are these. -/
namespace Go.Kc
variable {P:Program} {f:Nat}
def qqj(P:Program)(f:Nat):Prop:=∀l:GList,l.calls.length<=100000->qb P f [.agg (xn l)] (.b (jY l))
end Go.Kc
end
section
/- What a list's lines are read by: fold.ins, values.Read. Condition: the functions' texts are these. -/
namespace Go.Kc
variable {P:Program} {f:Nat}
structure Word where
 name:List UInt8
 act:Int
 has:Bool
end Go.Kc
end
section
/- Lists and notes are the same as themselves. Condition: the functions' texts are these. -/
namespace Go.Kc
variable {P:Program} {f:Nat}
end Go.Kc
end
section
/- What a word of a list stands for: fold.members, of what groups.Expand answers. Condition: the functions' texts are these. -/
namespace Go.Kc
variable {P:Program} {f:Nat}
end Go.Kc
end
section
/- A note of a word: what fold.Step's closure does. Condition: the function's text is this. -/
namespace Go.Kc
variable {P:Program} {f:Nat}
end Go.Kc
end
section
/- What fold.Step makes of a list, in plain words. No condition. -/
namespace Go.Kc
variable (E:List UInt8->List (List UInt8)×Int)
end Go.Kc
end
section
/- The order of names; lists that rise; what Put and Take make of these. No condition. -/
namespace Go.Kc
theorem qea:∀a:List UInt8,ltS a a=false
 | []=>rfl
 | c::x=>by rw[qcZ,if_neg (UInt8.lt_irrefl c),if_pos rfl];exact qea x
theorem qbr:∀{a b c:List UInt8},ltS a b=true->ltS b c=true->ltS a c=true
 | _,[],[],_,h2=>by simp[qjm] at h2
 | _,_::_,[],_,h2=>by simp[qc0] at h2
 | [],_,_::_,_,_=>rfl
 | _::_,[],_::_,h1,_=>by simp[qc0] at h1
 | a::x,b::y,c::z,h1,h2=>by
  rw[qcZ] at h1 h2 ⊢;simp only[UInt8.lt_iff_toNat_lt,← UInt8.toNat_inj] at h1 h2 ⊢
  by_cases e1:a.toNat<b.toNat
  ·by_cases e2:b.toNat<c.toNat
   ·rw[if_pos (by omega)]
   ·rw[if_neg e2] at h2;split at h2
    ·rw[if_pos (by omega)]
    ·cases h2
  ·rw[if_neg e1] at h1;split at h1
   ·rename_i e3
    by_cases e2:b.toNat<c.toNat
    ·rw[if_pos (by omega)]
    ·rw[if_neg e2] at h2;split at h2
     ·rw[if_neg (by omega),if_pos (by omega)];exact qbr h1 h2
     ·cases h2
   ·cases h1
theorem qma{a b:List UInt8}(h:ltS a b=true):a≠b:=by
 intro e;rw[e,qea] at h;cases h
def Up(l:List GCall):Prop:=l.Pairwise fun a b=>ltS a.name b.name=true
theorem qa2:∀(o:Option GCall) (l:List GCall),jC o l=true↔((∀c ∈ l,okC c=true)∧Up l∧∀b,o=some b->∀c ∈ l,ltS b.name c.name=true)
 | o,[]=>by simp[jC,Up]
 | o,c::l=>by
  have ih:=qa2 (some c) l;simp only[jC,Bool.and_eq_true,ih,Up,List.pairwise_cons,List.mem_cons,forall_eq_or_imp];constructor
  ·rintro⟨⟨h1,h2⟩,h3,h4,h5⟩;refine⟨⟨h1,h3⟩,⟨h5 c rfl,h4⟩,?_⟩;rintro b rfl;exact⟨h2,fun d hd=>qbr h2 (h5 c rfl d hd)⟩
  ·rintro⟨⟨h1,h3⟩,⟨h5,h4⟩,h6⟩;refine⟨⟨h1,?_⟩,h3,h4,?_⟩
   ·cases o with
    | none=>rfl
    | some b=>exact (h6 b rfl).1
   ·rintro b hb;cases hb;exact h5
theorem qaO(l:GList):jY l=true↔(l.mode<=2∧(l.mode≠0∨l.calls=[]))∧(∀c ∈ l.calls,okC c=true)∧Up l.calls:=by
 unfold jY;rw[Bool.and_eq_true,Bool.and_eq_true,Bool.or_eq_true,decide_eq_true_eq,decide_eq_true_eq,decide_eq_true_eq,qa2];simp
end Go.Kc
end
section
/- What fold.Step makes of a list that may be: it may be again. No condition. -/
namespace Go.Kc
end Go.Kc
end
section
/- A list's value as a row of puts and takes; twice is as once. No condition. -/
namespace Go.Kc
variable (E:List UInt8->List (List UInt8)×Int)
variable {E}
end Go.Kc
end
section
/- What fold.Step answers. Condition: the functions' texts are these. -/
namespace Go.Kc
variable {P:Program} {f:Nat}
end Go.Kc
end
section
/- What fold.Step answers, whole. Condition: the functions' texts are these. -/
namespace Go.Kc
variable {P:Program} {f:Nat}
end Go.Kc
end
section
/- FoldKeeps, FoldTwice: what the laws answer. Condition: the functions' texts are these. -/
namespace Go.Kc
variable {P:Program} {f:Nat}
end Go.Kc
end
section
/- FoldOne: what the law answers. Condition: the functions' texts are these. -/
namespace Go.Kc
variable {P:Program} {f:Nat}
def qaq(P:Program)(f:Nat):Prop:=∀(l:GList) (s:List UInt8),l.calls.length<=100000->qb P f [.agg (xn l),.s s] (.tup [.i .u32 (match zJ l.calls s with|some c=>c.act|none=>0),.b (zJ l.calls s).isSome])
end Go.Kc
end
section
/- What the document's reading of values answers. Condition: the functions' texts are these. -/
namespace Go.Kc
variable {P:Program} {f:Nat}
end Go.Kc
end
section
/- What the document says of lists. Condition: the functions' texts are these. -/
namespace Go.Kc
variable {P:Program} {f:Nat}
def Rng(l:List GCall):Prop:=∀c ∈ l,0<=c.act∧c.act<=4294967295
end Go.Kc
end
section
/- What the document makes of lists: Find, take, Take, Put, Same. Condition: the functions' texts are these. -/
namespace Go.Kc
variable {P:Program} {f:Nat}
end Go.Kc
end
section
/- What fold.Put and fold.Take answer, in rows of one's own. Condition: the functions' texts are these. -/
namespace Go.Kc
variable {P:Program} {f:Nat}
end Go.Kc
end
section
/- FoldLists: what the law answers. Condition: the functions' texts are these. -/
namespace Go.Kc
variable {P:Program} {f:Nat}
def qba(x:Int):List Int->Nat->Int
 | [],_=>-1
 | y::ys,j=>if x=y then (j:Int) else qba x ys (j+1)
end Go.Kc
end
section
/- What policy.May answers. Condition: the functions' texts are these. -/
namespace Go.Kc
variable {P:Program} {f:Nat}
def ji:IFn:=⟨[.tmp 4],.seq (.r [.m 4 (.k 0)]) (.seq (.seq (.r [.n 6 0,.e 7 6,.m 8 (.k 0)]) (.blk 0 (.loop (.seq (.r [.s 9 8 7]) (.seq (.cond (.t 9) (.skip) (.exit 0)) (.seq (.blk 1 (.seq (.r [.n 10 8,.n 5 10]) (.seq (.r [.n 11 1,.n 12 0,.n 13 5,.i 14 1 12 13,.d 15 14,.b 16 .eql 11 15]) (.cond (.t 16) (.seq (.r [.n 17 5,.n 4 17]) (.ret)) (.skip))))) (.r [.a 18 8 1,.n 8 18]))))))) (.seq (.r [.q 4 (.mov (.c (.i .i64 (-1))))]) (.ret)))⟩
theorem qnF(hc:qt P f ji=true)(xs:List Int)(x:Int)(hl:xs.length<=qg):qb P f [.fz xs.length (rI .i64 xs),.i .i64 x] (.i .i64 (qba x xs 0)):=by
 refine qb.mk hc (by simp[qx,clo,qc]) ?_;simp only[ji,vI,simprocAttr];simp only[↓vS,vT,simprocAttr];refine SL.loop (α:=Nat) (fun j=>[(0,.fz xs.length (rI .i64 xs)),(1,.i .i64 x),(7,.i .i64 xs.length),(8,.i .i64 j)]) (fun _=>[]) (fun j=>j<=xs.length∧qba x xs 0=qba x (xs.drop j) j) (fun j=>xs.length-j) 0 [] ?_ ?_ ?_ rfl ?_ ?_
 ·simp[vw,qc]
 ·trivial
 ·simp
 ·simp
 rintro j ⟨hj,hI⟩ G ih;simp only[vI,simprocAttr]
 by_cases hlt:j<xs.length
 ·have hx:xs[j]?=some xs[j]:=List.getElem?_eq_getElem hlt;have hw:IntKind.wrap .i64 ((j:Int)+1)=(j:Int)+1:=zg (by omega) (by have:=hl;simp only[qg] at this;omega)
  rw[List.drop_eq_getElem_cons hlt,qba] at hI;simp only[↓vS,vT,simprocAttr,hlt,Nat.mul_one,wc,hx,Option.map_some,hw];split
  ·rename_i he;simp only[he,vZ,if_true] at hI ⊢;simp[hI]
  ·rename_i he;rw[if_neg he] at hI;refine ih (j+1) ⟨by omega,hI⟩ (by omega) _ _ (Wk.mk _ _ [] ?_ ?_ ?_ rfl)
   ·simp[vw,qc]
   ·trivial
   ·simp
 ·simp only[↓vS,vT,simprocAttr,hlt,vZ];rw[List.drop_eq_nil_of_le (by omega)] at hI;simp[hI,qba]
theorem qcO(x:Int):∀(l:List Int) (j:Nat),decide (0<=qba x l j)=decide (x ∈ l)
 | [],j=>by simp[qba]
 | y::l,j=>by
  rw[qba]
  by_cases h:x=y
  ·simp[h]
  ·rw[if_neg h,qcO x l (j+1)];simp[h]
def xM(a:Nat):IFn:=⟨[.tmp 4],.seq (.r [.m 4 .F]) (.seq (.r [.n 5 0,.n 6 1,.l 7 a [.t 5,.t 6],.w 8 .geq 7 0,.n 4 8]) (.ret))⟩
theorem qiC{g:Nat}(hc:qt P f (xM g)=true)(hg:∀(xs:List Int) (x:Int),xs.length<=qg->qb P g [.fz xs.length (rI .i64 xs),.i .i64 x] (.i .i64 (qba x xs 0)))(xs:List Int)(x:Int)(hl:xs.length<=qg):qb P f [.fz xs.length (rI .i64 xs),.i .i64 x] (.b (decide (x ∈ xs))):=by
 refine qb.mk hc (by simp[qx,clo,qc]) ?_;simp only[xM,vI,simprocAttr];simp only[↓vS,vT,simprocAttr];refine (hg xs x hl).sc ?_;simp only[↓vS,vT,simprocAttr];simp[vZ,← qcO x xs 0]
def inA(l:List Int)(x:Int):Bool:=decide (l=[])||decide (x ∈ l)
def qaH(a:Nat):IFn:=⟨[.tmp 4],.seq (.r [.m 4 .F]) (.seq (.r [.n 5 0,.e 6 5,.w 7 .eql 6 0,.n 8 7,.z 9 0 8,.z 10 1 8,⟨(some 11),.callF a [.t 9,.t 10],(some (8,false))⟩,.o 12 8 11,.n 4 12]) (.ret))⟩
theorem qpt{g:Nat}(hc:qt P f (qaH g)=true)(hg:∀(xs:List Int) (x:Int),xs.length<=qg->qb P g [.fz xs.length (rI .i64 xs),.i .i64 x] (.b (decide (x ∈ xs))))(xs:List Int)(x:Int)(hl:xs.length<=qg):qb P f [.fz xs.length (rI .i64 xs),.i .i64 x] (.b (inA xs x)):=by
 refine qb.mk hc (by simp[qx,clo,qc]) ?_;simp only[qaH,vI,simprocAttr]
 by_cases h:xs.length=0
 ·have h':((xs.length:Int)=0)=True:=eq_true (by omega);have hn:xs=[]:=List.eq_nil_of_length_eq_zero h;simp only[↓vS,vT,simprocAttr,h'];simp[vZ,inA,hn]
 ·have h':((xs.length:Int)=0)=False:=eq_false (by omega);have hn:xs≠[]:=fun hh=>h (by rw[hh];rfl)
  simp only[↓vS,vT,simprocAttr,h'];refine (hg xs x hl).sc ?_;simp only[↓vS,vT,simprocAttr];simp[vZ,inA,hn]
def yx(a:Int):List UInt8:=if a<0∨6<=a then [] else (zc.getD a.toNat ([],0)).1
def Qf(a:Nat):IFn:=⟨[.tmp 2],.seq (.r [.m 2 (.c (.s []))]) (.seq (.seq (.r [.n 3 0,.w 4 .lss 3 0,.n 5 4,.z 6 0 5,.g 7 (.bin .geq (.t 6) (.k 6)) 5 false,.o 8 5 7]) (.cond (.t 8) (.seq (.r [.m 2 (.c (.s []))]) (.ret)) (.skip))) (.seq (.r [.l 9 a [],.n 10 0,.q 11 (.idxA 6 2 true (.t 9) (.t 10)),.q 12 (.fld 0 none (.t 11)),.n 2 12]) (.ret)))⟩
theorem qoi{g:Nat}(hc:qt P f (Qf g)=true)(hg:qb P g [] (.agg (zc.flatMap (xd .u32))))(a:Int):qb P f [.i .i64 a] (.s (yx a)):=by
 refine qb.mk hc rfl ?_;simp only[Qf,vI,simprocAttr]
 by_cases h1:a<0
 ·simp only[↓vS,vT,simprocAttr,h1];simp[vZ,yx,h1]
 by_cases h2:6<=a
 ·simp only[↓vS,vT,simprocAttr,h1,h2];simp[vZ,yx,h2]
 simp only[↓vS,vT,simprocAttr,h1,h2];refine hg.sc ?_;have h3:a=0∨a=1∨a=2∨a=3∨a=4∨a=5:=by omega
 rcases h3 with rfl|rfl|rfl|rfl|rfl|rfl <;>
 ·simp only[↓vS,vT,simprocAttr,zc,xd,List.flatMap_cons,List.flatMap_nil];simp[vZ,yx,zc]
theorem qcm(a:Int):(yx a≠[])↔(0<=a∧a<6):=by
 unfold yx;constructor
 ·intro h
  by_cases hh:a<0∨6<=a
  ·rw[if_pos hh] at h;exact absurd rfl h
  ·omega
 ·intro h;rw[if_neg (by omega)];have h3:a=0∨a=1∨a=2∨a=3∨a=4∨a=5:=by omega
  rcases h3 with rfl|rfl|rfl|rfl|rfl|rfl<;>decide
def zl(is:Int->Bool):Option Int->List Int->Bool
 | _,[]=>true
 | o,x::l=>is x&&(o.elim true fun b=>decide (b<x))&&zl is (some x) l
def wk:IFn:=⟨[.tmp 4],.seq (.r [.m 4 .F]) (.seq (.seq (.r [.n 7 0,.e 8 7,.m 9 (.k 0)]) (.blk 0 (.loop (.seq (.r [.s 10 9 8]) (.seq (.cond (.t 10) (.skip) (.exit 0)) (.seq (.blk 1 (.seq (.r [.n 11 9,.i 12 1 7 9,.d 13 12,.n 5 11,.n 6 13]) (.seq (.r [.n 14 1,.n 15 6,⟨(some 16),.callV (.t 14) [.t 15],none⟩,.q 17 (.un .not (.t 16)),.n 18 17,.z 19 5 18,.g 20 (.bin .gtr (.t 19) (.k 0)) 18 false,.z 21 20 18,.y 22 0 21,.y 23 5 21,.g 24 (.bin .sub (.t 23) (.k 1)) 21 true,.g 25 (.iAddrS 1 (.t 22) (.t 24)) 21 true,.j 26 25 21 true,.y 27 6 21,.g 28 (.bin .geq (.t 26) (.t 27)) 21 true,.g 29 (.pick (.t 21) (.t 28) .F) 18 false,.o 30 18 29]) (.cond (.t 30) (.seq (.r [.m 4 .F]) (.ret)) (.skip))))) (.r [.a 31 9 1,.n 9 31]))))))) (.seq (.r [.m 4 .T]) (.ret)))⟩
theorem qnQ(hc:qt P f wk=true)(xs:List Int)(g:Nat)(is:Int->Bool)(hg:∀x,qb P g [.i .i64 x] (.b (is x)))(hl:xs.length<=100000):qb P f [.fz xs.length (rI .i64 xs),.fn g [] []] (.b (zl is none xs)):=by
 refine qb.mk hc (by simp[qx,clo,qc]) ?_;simp only[wk,vI,simprocAttr];simp only[↓vS,vT,simprocAttr]
 refine SL.loop (α:=Nat) (fun j=>[(0,.fz xs.length (rI .i64 xs)),(1,.fn g [] []),(7,.fz xs.length (rI .i64 xs)),(8,.i .i64 xs.length),(9,.i .i64 j)]) (fun _=>[])
  (fun j=>j<=xs.length∧zl is none xs=zl is (if j=0 then none else xs[j-1]?) (xs.drop j)) (fun j=>xs.length-j) 0 [] ?_ ?_ ?_ rfl ?_ ?_
 ·simp[vw,qc]
 ·trivial
 ·simp
 ·exact⟨Nat.zero_le _,rfl⟩
 rintro j ⟨hj,hI⟩ G ih;simp only[vI,simprocAttr]
 by_cases hlt:j<xs.length
 ·have hx:xs[j]?=some xs[j]:=List.getElem?_eq_getElem hlt;have hw:IntKind.wrap .i64 ((j:Int)+1)=((j+1:Nat):Int):=by rw[zg (by omega) (by omega)];omega
  rw[List.drop_eq_getElem_cons hlt,zl] at hI;generalize hc0:xs[j]=c at hI hx;simp only[↓vS,vT,simprocAttr,hlt,Nat.mul_one,wc,hx,Option.map_some];refine (hg c).sc ?_;cases hk:is c with
  | false =>
   have hw:zl is none xs=false:=by rw[hI];simp[hk]
   simp only[↓vS,vT,simprocAttr];simp[vZ,hw]
  | true =>
   by_cases h0:j=0
   ·subst h0;have hn:¬(0:Int)<((0:Nat):Int):=by decide
    simp only[↓vS,vT,simprocAttr,hn,hw];refine ih 1 ⟨by omega,?_⟩ (by omega) _ _ (Wk.mk _ _ [] ?_ ?_ ?_ rfl)
    ·rw[hI,hk];simp[hx]
    ·simp[vw,qc];exact zg (by decide) (by decide)
    ·trivial
    ·simp
   ·have hp:(0:Int)<(j:Int):=by omega
    have hpl:j-1<xs.length:=by omega
    have hy:xs[j-1]?=some xs[j-1]:=List.getElem?_eq_getElem hpl;have hw2:IntKind.wrap .i64 ((j:Int)-1)=((j-1:Nat):Int):=by rw[zg (by omega) (by omega)];omega
    rw[if_neg h0,hy] at hI
    by_cases hlt2:c<=xs[j-1]
    ·have hwf:zl is none xs=false:=by rw[hI];simp[Int.not_lt.2 hlt2]
     simp only[↓vS,vT,simprocAttr,hp,hw2,hpl,hy,Nat.mul_one,wc,Option.map_some,hlt2];simp[vZ,hwf]
    ·simp only[↓vS,vT,simprocAttr,hp,hw2,hpl,hy,Nat.mul_one,wc,Option.map_some,hlt2,hw];refine ih (j+1) ⟨by omega,?_⟩ (by omega) _ _ (Wk.mk _ _ [] ?_ ?_ ?_ rfl)
     ·rw[hI,hk];simp[hx];omega
     ·simp[vw,qc]
     ·trivial
     ·simp
 ·rw[List.drop_of_length_le (by omega),zl] at hI;simp only[↓vS,vT,simprocAttr,hlt];simp[vZ,hI]
def jx:IFn:=⟨[.tmp 4],.seq (.r [.m 4 .F]) (.seq (.seq (.r [.n 7 0,.e 8 7,.m 9 (.k 0)]) (.blk 0 (.loop (.seq (.r [.s 10 9 8]) (.seq (.cond (.t 10) (.skip) (.exit 0)) (.seq (.blk 1 (.seq (.r [.n 11 9,.i 12 1 7 9,.d 13 12,.n 5 11,.n 6 13]) (.seq (.r [.n 14 1,.n 15 6,⟨(some 16),.callV (.t 14) [.t 15],none⟩,.q 17 (.un .not (.t 16)),.n 18 17,.z 19 5 18,.g 20 (.bin .gtr (.t 19) (.k 0)) 18 false,.z 21 20 18,.y 22 0 21,.y 23 5 21,.g 24 (.bin .sub (.t 23) (.k 1)) 21 true,.g 25 (.iAddrS 1 (.t 22) (.t 24)) 21 true,.j 26 25 21 true,.y 27 6 21,.g 28 (.bin .geq (.t 26) (.t 27)) 21 true,.g 29 (.pick (.t 21) (.t 28) .F) 18 false,.o 30 18 29]) (.cond (.t 30) (.seq (.r [.m 4 .F]) (.ret)) (.skip))))) (.r [.a 31 9 1,.n 9 31]))))))) (.seq (.r [.m 4 .T]) (.ret)))⟩
theorem qnR(hc:qt P f jx=true)(xs:List Int)(g:Nat)(is:Int->Bool)(hg:∀x,qb P g [.i .u32 x] (.b (is x)))(hl:xs.length<=100000):qb P f [.fz xs.length (rI .u32 xs),.fn g [] []] (.b (zl is none xs)):=by
 refine qb.mk hc (by simp[qx,clo,qc]) ?_;simp only[jx,vI,simprocAttr];simp only[↓vS,vT,simprocAttr]
 refine SL.loop (α:=Nat) (fun j=>[(0,.fz xs.length (rI .u32 xs)),(1,.fn g [] []),(7,.fz xs.length (rI .u32 xs)),(8,.i .i64 xs.length),(9,.i .i64 j)]) (fun _=>[])
  (fun j=>j<=xs.length∧zl is none xs=zl is (if j=0 then none else xs[j-1]?) (xs.drop j)) (fun j=>xs.length-j) 0 [] ?_ ?_ ?_ rfl ?_ ?_
 ·simp[vw,qc]
 ·trivial
 ·simp
 ·exact⟨Nat.zero_le _,rfl⟩
 rintro j ⟨hj,hI⟩ G ih;simp only[vI,simprocAttr]
 by_cases hlt:j<xs.length
 ·have hx:xs[j]?=some xs[j]:=List.getElem?_eq_getElem hlt;have hw:IntKind.wrap .i64 ((j:Int)+1)=((j+1:Nat):Int):=by rw[zg (by omega) (by omega)];omega
  rw[List.drop_eq_getElem_cons hlt,zl] at hI;generalize hc0:xs[j]=c at hI hx;simp only[↓vS,vT,simprocAttr,hlt,Nat.mul_one,wc,hx,Option.map_some];refine (hg c).sc ?_;cases hk:is c with
  | false =>
   have hw:zl is none xs=false:=by rw[hI];simp[hk]
   simp only[↓vS,vT,simprocAttr];simp[vZ,hw]
  | true =>
   by_cases h0:j=0
   ·subst h0;have hn:¬(0:Int)<((0:Nat):Int):=by decide
    simp only[↓vS,vT,simprocAttr,hn,hw];refine ih 1 ⟨by omega,?_⟩ (by omega) _ _ (Wk.mk _ _ [] ?_ ?_ ?_ rfl)
    ·rw[hI,hk];simp[hx]
    ·simp[vw,qc];exact zg (by decide) (by decide)
    ·trivial
    ·simp
   ·have hp:(0:Int)<(j:Int):=by omega
    have hpl:j-1<xs.length:=by omega
    have hy:xs[j-1]?=some xs[j-1]:=List.getElem?_eq_getElem hpl;have hw2:IntKind.wrap .i64 ((j:Int)-1)=((j-1:Nat):Int):=by rw[zg (by omega) (by omega)];omega
    rw[if_neg h0,hy] at hI
    by_cases hlt2:c<=xs[j-1]
    ·have hwf:zl is none xs=false:=by rw[hI];simp[Int.not_lt.2 hlt2]
     simp only[↓vS,vT,simprocAttr,hp,hw2,hpl,hy,Nat.mul_one,wc,Option.map_some,hlt2];simp[vZ,hwf]
    ·simp only[↓vS,vT,simprocAttr,hp,hw2,hpl,hy,Nat.mul_one,wc,Option.map_some,hlt2,hw];refine ih (j+1) ⟨by omega,?_⟩ (by omega) _ _ (Wk.mk _ _ [] ?_ ?_ ?_ rfl)
     ·rw[hI,hk];simp[hx];omega
     ·simp[vw,qc]
     ·trivial
     ·simp
 ·rw[List.drop_of_length_le (by omega),zl] at hI;simp only[↓vS,vT,simprocAttr,hlt];simp[vZ,hI]
def kV(n:Int):List (List UInt8×Int)->List UInt8
 | []=>[]
 | p::l=>if p.2=n then p.1 else kV n l
def wD:IFn:=⟨[.tmp 4],.seq (.r [.m 4 (.c (.s []))]) (.seq (.seq (.r [.n 7 0,.e 8 7,.m 9 (.k 0)]) (.blk 0 (.loop (.seq (.r [.s 10 9 8]) (.seq (.cond (.t 10) (.skip) (.exit 0)) (.seq (.blk 1 (.seq (.r [.i 11 2 7 9,.v 12 2 11,.q 6 (.alloc [.s [],.i .u32 0]),.u (.store 2 (.t 6) (.t 12))]) (.seq (.r [.f 13 1 6,.d 14 13,.n 15 1,.b 16 .eql 14 15]) (.cond (.t 16) (.seq (.r [.f 17 0 6,.d 18 17,.n 4 18]) (.ret)) (.skip))))) (.r [.a 19 9 1,.n 9 19]))))))) (.seq (.r [.m 4 (.c (.s []))]) (.ret)))⟩
theorem qpK(hc:qt P f wD=true)(l:List (List UInt8×Int))(n:Int)(hl:l.length<=qg):qb P f [.fz l.length (l.flatMap (xd .u32)),.i .u32 n] (.s (kV n l)):=by
 refine qb.mk hc (by simp[qx,clo]) ?_;simp only[wD,vI,simprocAttr];simp only[↓vS,vT,simprocAttr];refine SL.loop (α:=Nat) (fun j=>[(1,.i .u32 n),(7,.fz l.length (l.flatMap (xd .u32))),(8,.i .i64 l.length),(9,.i .i64 j)]) (fun _=>[]) (fun j=>j<=l.length∧kV n l=kV n (l.drop j)) (fun j=>l.length-j) 0 [] ?_ ?_ ?_ rfl ?_ ?_
 ·simp[vw]
 ·trivial
 ·simp
 ·simp
 rintro j ⟨hj,hI⟩ G ih;simp only[vI,simprocAttr]
 by_cases hlt:j<l.length
 ·have hx:l[j]?=some l[j]:=List.getElem?_eq_getElem hlt;have hw:IntKind.wrap .i64 ((j:Int)+1)=(j:Int)+1:=zg (by omega) (by have:=hl;simp only[qg] at this;omega)
  have he:=xj (f:=xd .u32) (m:=2) Qs hx;have hb:j*2+2<=(l.flatMap (xd .u32)).length:=by rw[z2 (m:=2) Qs];omega
  rw[List.drop_eq_getElem_cons hlt,kV] at hI;simp only[↓vS,vT,simprocAttr,hlt,hb,he,xd,hw];split
  ·rename_i hs;rw[hI,if_pos hs];simp only[vZ,and_self,true_and]
  ·rename_i hs;rw[if_neg hs] at hI;refine ih (j+1) ⟨by omega,hI⟩ (by omega) _ _ (Wk.mk _ _ [] ?_ ?_ ?_ rfl)
   ·simp[vw]
   ·trivial
   ·simp
 ·simp only[↓vS,vT,simprocAttr,hlt,vZ];rw[List.drop_eq_nil_of_le (by omega),kV] at hI;rw[hI]
def wj(a b:Nat):IFn:=⟨[.tmp 2],.seq (.r [.m 2 (.c (.s []))]) (.seq (.r [.l 4 a [],.q 3 (.alloc [.s [],.i .u32 0,.s [],.i .u32 0,.s [],.i .u32 0,.s [],.i .u32 0,.s [],.i .u32 0,.s [],.i .u32 0,.s [],.i .u32 0,.s [],.i .u32 0]),.u (.store 16 (.t 3) (.t 4))]) (.seq (.r [.q 5 (.slcA 8 2 (.t 3) none none none),.n 6 0,.l 7 b [.t 5,.t 6],.n 2 7]) (.ret)))⟩
theorem qlE{g1 g2:Nat}(hc:qt P f (wj g1 g2)=true)(h1:qb P g1 [] (.agg (zh.flatMap (xd .u32))))(h2:∀(l:List (List UInt8×Int)) (n:Int),l.length<=qg->qb P g2 [.fz l.length (l.flatMap (xd .u32)),.i .u32 n] (.s (kV n l)))(n:Int):qb P f [.i .u32 n] (.s (kV n zh)):=by
 refine qb.mk hc rfl ?_;simp only[wj,vI,simprocAttr];simp only[↓vS,vT,simprocAttr];refine h1.sc ?_;simp only[↓vS,vT,simprocAttr,zh,xd,List.flatMap_cons,List.flatMap_nil];refine (h2 zh n (by decide)).lend (vs':=[.fz 8 (zh.flatMap (xd .u32)),.i .u32 n]) ?_ rfl ?_
 ·refine .cons _ _ _ _ (.cut 2 rfl (Nat.le_refl _) ?_) (.cons _ _ _ _ (.i _ _) .nil);simp[vw,zh,xd]
 simp only[↓vS,vT,simprocAttr,vZ,and_self,zh]
def ku:IFn:=⟨[.tmp 2],.seq (.r [.q 1 (.box (.t 0)),.m 2 .F]) (.seq (.r [.f 3 1 1,.d 4 3,.q 5 (.bin .neq (.t 4) (.c (.i .u32 0))),.n 2 5]) (.ret))⟩
theorem qqg(hc:qt P f ku=true)(c:GCall):qb P f [.agg (jG c)] (.b (decide (c.act≠0))):=by
 refine qb.mk hc rfl ?_;simp only[ku,jG,vI,simprocAttr]
 by_cases h:c.act=0 <;>
 ·simp only[↓vS,vT,simprocAttr,h];simp[vZ,h]
def kv(a:Nat):IFn:=⟨[.tmp 2],.seq (.r [.m 2 .F]) (.seq (.r [.n 3 0,.l 4 a [.t 3],.q 5 (.bin .neq (.t 4) (.c (.s []))),.n 2 5]) (.ret))⟩
theorem qqh{g:Nat}(hc:qt P f (kv g)=true)(hg:∀a,qb P g [.i .i64 a] (.s (yx a)))(a:Int):qb P f [.i .i64 a] (.b (decide (0<=a)&&decide (a<6))):=by
 refine qb.mk hc rfl ?_;simp only[kv,vI,simprocAttr];simp only[↓vS,vT,simprocAttr];refine (hg a).sc ?_;have h:=qcm a
 by_cases h':yx a=[]
 ·have h2:(decide (0<=a)&&decide (a<6))=false:=by
   have:=mt h.2 (by simpa using h');simp only[Bool.and_eq_false_iff,decide_eq_false_iff_not];omega
  simp only[↓vS,vT,simprocAttr,h'];simp[vZ,h2]
 ·have h2:=h.1 h';simp only[↓vS,vT,simprocAttr,h'];simp[vZ,h2]
def qbZ(n:Int):Bool:=decide (kV n zh≠[])
def kw(a:Nat):IFn:=⟨[.tmp 2],.seq (.r [.m 2 .F]) (.seq (.r [.n 3 0,.l 4 a [.t 3],.q 5 (.bin .neq (.t 4) (.c (.s []))),.n 2 5]) (.ret))⟩
theorem qqi{g:Nat}(hc:qt P f (kw g)=true)(hg:∀a,qb P g [.i .u32 a] (.s (kV a zh)))(a:Int):qb P f [.i .u32 a] (.b (qbZ a)):=by
 refine qb.mk hc rfl ?_;simp only[kw,vI,simprocAttr];simp only[↓vS,vT,simprocAttr];refine (hg a).sc ?_;unfold qbZ;generalize kV a zh=s
 by_cases h':s=[] <;>
 ·simp only[↓vS,vT,simprocAttr,h'];simp[vZ,h']
def zu(a:Nat):IFn:=⟨[.tmp 4],.seq (.r [.m 4 .F]) (.seq (.r [.n 5 0,.n 6 1,.l 7 a [.t 5,.t 6],.w 8 .geq 7 0,.n 4 8]) (.ret))⟩
theorem qcP{α:Type}(p:α->Bool):∀(l:List α) (j:Nat),decide (0<=xH p l j)=l.any p
 | [],j=>by simp[xH]
 | x::l,j=>by
  rw[xH]
  by_cases h:p x=true
  ·simp[h]
  ·rw[if_neg h,qcP p l (j+1)];simp[h]
theorem qge{g:Nat}(hc:qt P f (zu g)=true)(h:ww 2 P g)(l:List GCall)(k:Nat)(p:GCall->Bool)(hk:∀c,qb P k [.agg (jG c)] (.b (p c)))(hl:l.length<=qg):qb P f [.fz l.length (rC l),.fn k [] []] (.b (l.any p)):=by
 refine qb.mk hc (by simp[qx,clo,qe]) ?_;simp only[zu,vI,simprocAttr];simp only[↓vS,vT,simprocAttr];refine (h jG p k [] [] l vg rfl rfl hl fun x _=>hk x).sc ?_
 simp only[↓vS,vT,simprocAttr];simp[vZ,← qcP p l 0]
def jL(a b c d e g h i:Nat):ICode:=.seq (.reg true [.n 46 3,.n 47 46,.y 48 4 47,.p 49 47 48,.n 50 49,.y 51 5 50,.p 52 50 51,.n 53 52,.y 54 6 53,.p 55 53 54,.n 56 55,.y 57 7 56,.p 58 56 57,.n 59 58,.h 60 1 1 59 true,.g 61 (.loadN 2 (.t 60)) 59 true,⟨(some 62),.callF h [.t 61],(some (59,true))⟩,.p 63 59 62,.n 64 63,.h 65 4 1 64 true,.g 66 (.loadN 2 (.t 65)) 64 true,⟨(some 67),.callF h [.t 66],(some (64,true))⟩,.p 68 64 67,.n 69 68,.h 70 8 1 69 true,.j 71 70 69 true,⟨(some 72),.callF i [],(some (69,true))⟩,.g 73 (.bin .andNot (.t 71) (.t 72)) 69 true,.g 74 (.bin .eql (.t 73) (.c (.i .u64 0))) 69 true,.p 75 69 74,.n 2 75]) (.ret)
def xU(a b c d e g h i:Nat):ICode:=.seq (.r [.f 40 0 1,.d 41 40,.l 42 c [.t 41,(.c (.fn d [] []))],.n 6 42]) (.seq (.r [.f 43 6 1,.d 44 43,.l 45 e [.t 44,(.c (.fn g [] []))],.n 7 45]) (.cut (jL a b c d e g h i)))
def xT(a b c d e g h i:Nat):ICode:=.seq (.r [.f 26 7 1,.d 27 26,.q 28 (.bin .leq (.t 27) (.c (.i .u8 2))),.n 29 28,.h 30 7 1 29 true,.j 31 30 29 true,.g 32 (.bin .neq (.t 31) (.c (.i .u8 0))) 29 true,.y 33 32 29,.h 34 6 1 33 false,.j 35 34 33 false,.g 36 (.len false (.t 35)) 33 false,.g 37 (.bin .eql (.t 36) (.k 0)) 33 false,.g 38 (.pick (.t 33) .T (.t 37)) 29 true,.p 39 29 38,.n 5 39]) (.cut (xU a b c d e g h i))
def yF(a b c d e g h i:Nat):IFn:=⟨[.tmp 2],.seq (.r [.q 1 (.box (.t 0)),.m 2 .F]) (.seq (.r [.f 8 4 1,.f 9 1 8,.d 10 9,.l 11 a [.t 10,(.c (.fn b [] []))],.q 12 (.un .not (.t 11)),.n 3 12]) (.seq (.r [.f 13 3 1,.d 14 13,.q 15 (.bin .eql (.t 14) (.c (.i .u32 2147483648))),.n 16 15,.h 17 3 1 16 false,.j 18 17 16 false,.g 19 (.bin .geq (.t 18) (.c (.i .u32 327680))) 16 false,.z 20 19 16,.h 21 3 1 20 true,.j 22 21 20 true,.g 23 (.bin .leq (.t 22) (.c (.i .u32 331775))) 20 true,.g 24 (.pick (.t 20) (.t 23) .F) 16 false,.o 25 16 24,.n 4 25]) (.cut (xT a b c d e g h i))))⟩
noncomputable def jN(p:Pol):Bool:=jY p.filter&&jY p.log&&decide (qds .u64 p.spaces 2114060416=0)
theorem qjp{g1 g2 g3 g4 g5 g6 g7 g8:Nat}(h7:∀l:GList,l.calls.length<=100000->qb P g7 [.agg (xn l)] (.b (jY l)))
  (h8:qb P g8 [] (.i .u64 2114060416)) (p:Pol) (hp:PolOk p) (o d m a fm:Bool) {t':Tr AV} {h':Hp} (hw:Wk 0 t' h' (mkT [(1,.ptr 0 0),(2,.b false),(3,.b o),(4,.b d),(5,.b m),(6,.b a),(7,.b fm)]) (mkH 0 [.cells 0 true false (qr p)])) :
  S P 0 (jL g1 g2 g3 g4 g5 g6 g7 g8) (jJ [.tmp 2] fun v' h'=>Frz h' v' (.b (o&&d&&m&&a&&fm&&jN p))) t' h':=by
 have hcc:=hp.c;have hl:=hp.l;refine S.weak hw (qP ?_);simp only[jL,qr,vI,simprocAttr];simp only[↓vS,vT,simprocAttr];refine kC ?_;cases o
 ·simp only[↓vS,vT,simprocAttr];simp[vZ]
 cases d
 ·simp only[↓vS,vT,simprocAttr];simp[vZ]
 cases m
 ·simp only[↓vS,vT,simprocAttr];simp[vZ]
 cases a
 ·simp only[↓vS,vT,simprocAttr];simp[vZ]
 cases fm
 ·simp only[↓vS,vT,simprocAttr];simp[vZ]
 simp only[↓vS,vT,simprocAttr];refine (h7 p.filter (by omega)).pc ?_;cases hF:jY p.filter
 ·simp only[↓vS,vT,simprocAttr];simp[vZ,jN,hF]
 simp only[↓vS,vT,simprocAttr];refine (h7 p.log (by omega)).pc ?_;cases hL:jY p.log
 ·simp only[↓vS,vT,simprocAttr];simp[vZ,jN,hF,hL]
 simp only[↓vS,vT,simprocAttr];refine h8.pc ?_;simp only[↓vS,vT,simprocAttr];simp[vZ,jN,hF,hL]
theorem qjo{g1 g2 g3 g4 g5 g6 g7 g8:Nat}(h3:∀(xs:List Int) (g:Nat) (is:Int->Bool),(∀x,qb P g [.i .i64 x] (.b (is x)))->xs.length<=100000->qb P g3 [.fz xs.length (rI .i64 xs),.fn g [] []] (.b (zl is none xs)))
  (h4:∀a,qb P g4 [.i .i64 a] (.b (decide (0<=a)&&decide (a<6))))
  (h5:∀(xs:List Int) (g:Nat) (is:Int->Bool),(∀x,qb P g [.i .u32 x] (.b (is x)))->xs.length<=100000->qb P g5 [.fz xs.length (rI .u32 xs),.fn g [] []] (.b (zl is none xs)))
  (h6:∀a,qb P g6 [.i .u32 a] (.b (qbZ a)))
  (h7:∀l:GList,l.calls.length<=100000->qb P g7 [.agg (xn l)] (.b (jY l)))
  (h8:qb P g8 [] (.i .u64 2114060416)) (p:Pol) (hp:PolOk p) (o d m:Bool) {t':Tr AV} {h':Hp} (hw:Wk 0 t' h' (mkT [(1,.ptr 0 0),(2,.b false),(3,.b o),(4,.b d),(5,.b m)]) (mkH 0 [.cells 0 true false (qr p)])) :
  S P 0 (xU g1 g2 g3 g4 g5 g6 g7 g8) (jJ [.tmp 2] fun v' h'=>Frz h' v' (.b (o&&d&&m&&zl (fun a=>decide (0<=a)&&decide (a<6)) none p.arches&&zl qbZ none p.fams&&jN p))) t' h':=by
 have ha:=hp.a;have hf:=hp.f;refine S.weak hw (qP ?_);simp only[xU,qr,vI,simprocAttr];simp only[↓vS,vT,simprocAttr];refine (h3 p.arches g4 _ h4 (by omega)).sc ?_;simp only[↓vS,vT,simprocAttr];refine (h5 p.fams g6 _ h6 (by omega)).sc ?_;simp only[↓vS,vT,simprocAttr];refine qjp h7 h8 p hp o d m _ _ (Wk.mk _ _ [0] ?_ ?_ ?_ rfl)
 ·simp[vw]
 ·simp[vw,qr,qc,qe]
 ·simp
def Q9(p:Pol):Bool:=decide (p.fmode<=2)&&(decide (p.fmode≠0)||decide (p.fams=[]))
theorem qjn{g1 g2 g3 g4 g5 g6 g7 g8:Nat}(h3:∀(xs:List Int) (g:Nat) (is:Int->Bool),(∀x,qb P g [.i .i64 x] (.b (is x)))->xs.length<=100000->qb P g3 [.fz xs.length (rI .i64 xs),.fn g [] []] (.b (zl is none xs)))
  (h4:∀a,qb P g4 [.i .i64 a] (.b (decide (0<=a)&&decide (a<6))))
  (h5:∀(xs:List Int) (g:Nat) (is:Int->Bool),(∀x,qb P g [.i .u32 x] (.b (is x)))->xs.length<=100000->qb P g5 [.fz xs.length (rI .u32 xs),.fn g [] []] (.b (zl is none xs)))
  (h6:∀a,qb P g6 [.i .u32 a] (.b (qbZ a)))
  (h7:∀l:GList,l.calls.length<=100000->qb P g7 [.agg (xn l)] (.b (jY l)))
  (h8:qb P g8 [] (.i .u64 2114060416)) (p:Pol) (hp:PolOk p) (o d:Bool) {t':Tr AV} {h':Hp} (hw:Wk 0 t' h' (mkT [(1,.ptr 0 0),(2,.b false),(3,.b o),(4,.b d)]) (mkH 0 [.cells 0 true false (qr p)])) :
  S P 0 (xT g1 g2 g3 g4 g5 g6 g7 g8) (jJ [.tmp 2] fun v' h'=>Frz h' v' (.b (o&&d&&Q9 p&&zl (fun a=>decide (0<=a)&&decide (a<6)) none p.arches&&zl qbZ none p.fams&&jN p))) t' h':=by
 refine S.weak hw (qP ?_);simp only[xT,qr,vI,simprocAttr]
 have go:∀m,m=Q9 p->∀{t':Tr AV} {h':Hp},Wk 0 t' h' (mkT [(1,.ptr 0 0),(2,.b false),(3,.b o),(4,.b d),(5,.b m)]) (mkH 0 [.cells 0 true false (qr p)])->S P 0 (xU g1 g2 g3 g4 g5 g6 g7 g8) (jJ [.tmp 2] fun v' h'=>Frz h' v' (.b (o&&d&&Q9 p&&zl (fun a=>decide (0<=a)&&decide (a<6)) none p.arches&&zl qbZ none p.fams&&jN p))) t' h':=by
  rintro m rfl t' h' hw;exact qjo h3 h4 h5 h6 h7 h8 p hp o d _ hw
 by_cases m1:p.fmode<=2
 ·by_cases m2:p.fmode=0
  ·by_cases m3:p.fams=[]
   ·have h0:(p.fams.length:Int)=0:=by rw[m3];rfl
    simp only[↓vS,vT,simprocAttr,m1,m2,h0];refine go true (by simp[Q9,m1,m2,m3]) (Wk.mk _ _ [0] ?_ ?_ ?_ rfl)
    ·simp[vw]
    ·simp[vw,qr,qc,qe,m2]
    ·simp
   ·have h0:((p.fams.length:Int)=0)=False:=eq_false (by have:=List.length_pos_iff.2 m3;omega)
    simp only[↓vS,vT,simprocAttr,m1,m2,h0];refine go false (by simp[Q9,m1,m2,m3]) (Wk.mk _ _ [0] ?_ ?_ ?_ rfl)
    ·simp[vw]
    ·simp[vw,qr,qc,qe,m2]
    ·simp
  ·simp only[↓vS,vT,simprocAttr,m1,m2];refine go true (by simp[Q9,m1,m2]) (Wk.mk _ _ [0] ?_ ?_ ?_ rfl)
   ·simp[vw]
   ·simp[vw,qr,qc,qe]
   ·simp
 ·simp only[↓vS,vT,simprocAttr,m1];refine go false (by simp[Q9,m1]) (Wk.mk _ _ [0] ?_ ?_ ?_ rfl)
  ·simp[vw]
  ·simp[vw,qr,qc,qe]
  ·simp
def qbh(n:Int):Bool:=decide (n=2147483648)||(decide (327680<=n)&&decide (n<=331775))
noncomputable def wK(p:Pol):Bool:=!(p.log.calls.any fun c=>decide (c.act≠0))&&qbh p.deny&&Q9 p&&zl (fun a=>decide (0<=a)&&decide (a<6)) none p.arches&&zl qbZ none p.fams&&jN p
theorem qnL{g1 g2 g3 g4 g5 g6 g7 g8:Nat}(hc:qt P f (yF g1 g2 g3 g4 g5 g6 g7 g8)=true)
  (h1:∀(l:List GCall) (k:Nat) (p:GCall->Bool),(∀c,qb P k [.agg (jG c)] (.b (p c)))->l.length<=qg->qb P g1 [.fz l.length (rC l),.fn k [] []] (.b (l.any p)))
  (h2:∀c,qb P g2 [.agg (jG c)] (.b (decide (c.act≠0))))
  (h3:∀(xs:List Int) (g:Nat) (is:Int->Bool),(∀x,qb P g [.i .i64 x] (.b (is x)))->xs.length<=100000->qb P g3 [.fz xs.length (rI .i64 xs),.fn g [] []] (.b (zl is none xs)))
  (h4:∀a,qb P g4 [.i .i64 a] (.b (decide (0<=a)&&decide (a<6))))
  (h5:∀(xs:List Int) (g:Nat) (is:Int->Bool),(∀x,qb P g [.i .u32 x] (.b (is x)))->xs.length<=100000->qb P g5 [.fz xs.length (rI .u32 xs),.fn g [] []] (.b (zl is none xs)))
  (h6:∀a,qb P g6 [.i .u32 a] (.b (qbZ a)))
  (h7:∀l:GList,l.calls.length<=100000->qb P g7 [.agg (xn l)] (.b (jY l)))
  (h8:qb P g8 [] (.i .u64 2114060416)) (p:Pol) (hp:PolOk p):qb P f [.agg (qr p)] (.b (wK p)):=by
 have hl:=hp.l;refine qb.mk hc rfl ?_
 have go:∀d,d=qbh p.deny->∀{t':Tr AV} {h':Hp},Wk 0 t' h' (mkT [(1,.ptr 0 0),(2,.b false),(3,.b (!(p.log.calls.any fun c=>decide (c.act≠0)))),(4,.b d)]) (mkH 0 [.cells 0 true false (qr p)])->S P 0 (xT g1 g2 g3 g4 g5 g6 g7 g8) (jJ [.tmp 2] fun v' h'=>Frz h' v' (.b (wK p))) t' h':=by
  rintro d rfl t' h' hw;exact qjn h3 h4 h5 h6 h7 h8 p hp _ _ hw
 simp only[yF,qr,vI,simprocAttr];simp only[↓vS,vT,simprocAttr];refine (h1 p.log.calls g2 _ h2 (by simp only[qg];omega)).sc ?_
 by_cases d1:p.deny=2147483648
 ·simp only[↓vS,vT,simprocAttr,d1];refine go true (by simp[qbh,d1]) (Wk.mk _ _ [0] ?_ ?_ ?_ rfl)
  ·simp[vw]
  ·simp[vw,qr,qc,qe,d1]
  ·simp
 by_cases d2:327680<=p.deny
 ·by_cases d3:p.deny<=331775
  ·simp only[↓vS,vT,simprocAttr,d1,d2,d3];refine go true (by simp[qbh,d1,d2,d3]) (Wk.mk _ _ [0] ?_ ?_ ?_ rfl)
   ·simp[vw]
   ·simp[vw,qr,qc,qe]
   ·simp
  ·simp only[↓vS,vT,simprocAttr,d1,d2,d3];refine go false (by simp[qbh,d1,d2,d3]) (Wk.mk _ _ [0] ?_ ?_ ?_ rfl)
   ·simp[vw]
   ·simp[vw,qr,qc,qe]
   ·simp
 ·simp only[↓vS,vT,simprocAttr,d1,d2];refine go false (by simp[qbh,d1,d2]) (Wk.mk _ _ [0] ?_ ?_ ?_ rfl)
  ·simp[vw]
  ·simp[vw,qr,qc,qe]
  ·simp
end Go.Kc
end
section
/- What the document's May of a policy answers. Condition: the functions' texts are these. -/
namespace Go.Kc
variable {P:Program} {f:Nat}
structure PolR (p:Pol):Prop where
 fams:∀x ∈ p.fams,0<=x∧x<=4294967295
 deny:0<=p.deny∧p.deny<=4294967295
 spaces:0<=p.spaces∧p.spaces<18446744073709551616
 filter:Rng p.filter.calls
 log:Rng p.log.calls
section
variable {g1 g2 g3 g4:Nat}
end
end Go.Kc
end
section
/- Tests, rules; numbers of calls; the helpers of lower. Condition: the functions' texts are these. -/
namespace Go.Kc
variable {P:Program} {f:Nat}
structure GTest where
 arg:Int
 mask:Int
 val:Int
 act:Int
def jq(t:GTest):List AV:=[.i .i64 t.arg,.i .u64 t.mask,.i .u64 t.val,.i .u32 t.act]
theorem Qz(t:GTest):(jq t).length=4:=rfl
def rT(l:List GTest):List AV:=l.flatMap jq
structure GRule where
 nr:Int
 tests:List GTest
 act:Int
def x5(r:GRule):List AV:=[.i .u32 r.nr,.fz r.tests.length (rT r.tests),.i .u32 r.act]
theorem yf(r:GRule):(x5 r).length=3:=rfl
def rR(l:List GRule):List AV:=l.flatMap x5
structure GFil where
 arch:Int
 rules:List GRule
 dflt:Int
def y5(x:GFil):List AV:=[.i .i64 x.arch,.fz x.rules.length (rR x.rules),.i .u32 x.dflt]
section
variable {l m:List GTest} {j:Nat}
theorem QP:(rT l).length=l.length*4:=z2 Qz l
theorem xf:qx (rT l)=true:=QB fun _=>rfl
theorem qkM:qA (rT l)=true:=qdq fun _=>rfl
theorem qjV{c:GTest}(h:l[j]?=some c):((rT l).drop (j*4)).take 4=jq c:=xj Qz h
theorem qdI:rT l++rT m=rT (l++m):=by simp[rT]
theorem qhA(h:j<l.length):j*4+4<=(rT l).length:=by rw[QP];omega
end
section
variable {l m:List GRule} {j:Nat}
theorem QO:(rR l).length=l.length*3:=z2 yf l
theorem qi:qx (rR l)=true:=QB fun _=>rfl
theorem qjU{c:GRule}(h:l[j]?=some c):((rR l).drop (j*3)).take 3=x5 c:=xj yf h
theorem qhz{c:GRule}(h:l[j]?=some c){i:Nat}(hi:i<3):(rR l)[j*3+i]?=(x5 c)[i]?:=qcD yf h hi
theorem qmX:rR l++rR m=rR (l++m):=by simp[rR]
theorem qhy(h:j<l.length):j*3+3<=(rR l).length:=by rw[QO];omega
end
def jy(x:List UInt8×List Int)(a:Int):Option Int :=
 if a<0∨6<=a∨x.2.getD a.toNat 0<0 then none else some (if a=2 then orI .u32 (IntKind.wrap .u32 (x.2.getD a.toNat 0)) 1073741824 else IntKind.wrap .u32 (x.2.getD a.toNat 0))
def vq(a:Int)(s:List UInt8):Option Int:=(qE.find? (fun x=>decide (x.1=s))).bind fun x=>jy x a
theorem vt(x:List UInt8×List Int)(i:Nat)(hi:i<6):jy x (i:Int)=if x.2.getD i 0<0 then none else some (if (i:Int)=2 then orI .u32 (IntKind.wrap .u32 (x.2.getD i 0)) 1073741824 else IntKind.wrap .u32 (x.2.getD i 0)):=by
 unfold jy;rw[Int.toNat_natCast]
 by_cases h:x.2.getD i 0<0
 ·rw[if_pos (.inr (.inr h)),if_pos h]
 ·rw[if_neg (by omega),if_neg h]
def jU:IFn:=⟨[.tmp 4,.tmp 5],.seq (.r [.q 2 (.box (.t 0)),.m 4 (.c (.i .u32 0)),.m 5 .F]) (.seq (.seq (.r [.n 7 1,.w 8 .lss 7 0,.n 9 8,.z 10 1 9,.g 11 (.bin .geq (.t 10) (.k 6)) 9 false,.o 12 9 11,.n 13 12,.z 14 1 13,.h 15 1 2 13 false,.g 16 (.iAddrA 6 1 (.t 15) (.t 14)) 13 false,.j 17 16 13 false,.g 18 (.bin .lss (.t 17) (.k 0)) 13 false,.o 19 13 18]) (.cond (.t 19) (.seq (.r [.m 4 (.c (.i .u32 0)),.m 5 .F]) (.ret)) (.skip))) (.seq (.r [.n 20 1,.f 21 1 2,.q 22 (.iAddrA 6 1 (.t 21) (.t 20)),.d 23 22,.q 24 (.cvInt .u32 (.t 23)),.n 6 24]) (.seq (.seq (.r [.n 25 1,.w 26 .eql 25 2]) (.cond (.t 26) (.r [.n 27 6,.q 28 (.bin .or (.t 27) (.c (.i .u32 1073741824))),.n 6 28]) (.skip))) (.seq (.r [.n 29 6,.n 4 29,.m 5 .T]) (.ret)))))⟩
theorem qpp(hc:qt P f jU=true)(x:List UInt8×List Int)(a:Int):qb P f [.agg (xy x),.i .i64 a] (match jy x a with|some n=>.tup [.i .u32 n,.b true]|none=>.tup [.i .u32 0,.b false]):=by
 refine qb.mk hc rfl ?_;simp only[jU,xy,vI,simprocAttr]
 by_cases h1:a<0
 ·simp only[↓vS,vT,simprocAttr,h1];simp[vZ,jy,h1]
 by_cases h2:6<=a
 ·simp only[↓vS,vT,simprocAttr,h1,h2];simp[vZ,jy,h2]
 have h3:a=0∨a=1∨a=2∨a=3∨a=4∨a=5:=by omega
 clear h1 h2;rcases h3 with rfl|rfl|rfl|rfl|rfl|rfl <;>
 ·first
   | rw[show jy x 0=_ from vt x 0 (by decide)]
   | rw[show jy x 1=_ from vt x 1 (by decide)]
   | rw[show jy x 2=_ from vt x 2 (by decide)]
   | rw[show jy x 3=_ from vt x 3 (by decide)]
   | rw[show jy x 4=_ from vt x 4 (by decide)]
   | rw[show jy x 5=_ from vt x 5 (by decide)]
  generalize x.2.getD _ 0=v0
  by_cases h4:v0<0
  ·simp (decide:=true) only [↓vS,vT,simprocAttr,h4];simp[vZ]
  ·simp (decide:=true) only [↓vS,vT,simprocAttr,h4];simp[vZ]
def wN:IFn:=⟨[.tmp 3],.seq (.r [.q 2 (.box (.t 0)),.m 3 .F]) (.seq (.r [.f 4 0 2,.d 5 4,.d 6 1,.b 7 .eql 5 6,.n 3 7]) (.ret))⟩
theorem qoS(hc:qt P f wN=true)(s:List UInt8)(x:List UInt8×List Int):qb P f [.agg (xy x),.pf [.s s] 0] (.b (decide (x.1=s))):=by
 refine qb.mk hc (by simp[qx,clo,xy]) ?_;simp only[wN,xy,vI,simprocAttr];simp only[↓vS,vT,simprocAttr,vZ]
def kp(a b c:Nat):IFn:=⟨[.tmp 4,.tmp 5],.seq (.r [.q 3 (.box (.t 1)),.m 4 (.c (.i .u32 0)),.m 5 (.k 0)]) (.seq (.r [.q 11 (.mkF a [] [.t 3]),.l 12 b [.t 11],.n 10 12,.x 13 10 0,.x 14 10 1,.q 6 (.alloc [.s [],.i .i64 0,.i .i64 0,.i .i64 0,.i .i64 0,.i .i64 0,.i .i64 0]),.u (.store 7 (.t 6) (.t 13)),.n 7 14]) (.seq (.r [.v 16 7 6,.n 17 0,.l 18 c [.t 16,.t 17],.n 15 18,.x 19 15 0,.x 20 15 1,.n 8 19,.n 9 20]) (.seq (.seq (.r [.n 21 7,.q 22 (.un .not (.t 21)),.n 23 22,.z 24 9 23,.g 25 (.un .not (.t 24)) 23 false,.o 26 23 25]) (.cond (.t 26) (.seq (.r [.m 4 (.c (.i .u32 0)),.m 5 (.k 90)]) (.ret)) (.skip))) (.seq (.r [.n 27 8,.n 4 27,.m 5 (.k 0)]) (.ret)))))⟩
theorem qkH{g1 g2 g3:Nat}(hc:qt P f (kp g1 g2 g3)=true)(h1:∀s x,qb P g1 [.agg (xy x),.pf [.s s] 0] (.b (decide (x.1=s))))
  (h2:∀(p:List UInt8×List Int->Bool) (g:Nat) (a c:List AV),qx a=true->qx c=true->(∀x ∈ qE,qb P g (a++([.agg (xy x)]++c)) (.b (p x)))->qb P g2 [.fn g a c] (Zh p))
  (h3:∀x a,qb P g3 [.agg (xy x),.i .i64 a] (match jy x a with|some n=>.tup [.i .u32 n,.b true]|none=>.tup [.i .u32 0,.b false])) (a:Int) (s:List UInt8) :
  qb P f [.i .i64 a,.s s] (match vq a s with|some n=>.tup [.i .u32 n,.i .i64 0]|none=>.tup [.i .u32 0,.i .i64 90]):=by
 refine qb.mk hc rfl ?_;simp only[kp,vI,simprocAttr];simp only[↓vS,vT,simprocAttr];refine (h2 (fun x=>decide (x.1=s)) g1 [] [.pf [.s s] 0] rfl rfl (fun x _=>h1 s x)).lend (vs':=[.fn g1 [] [.pf [.s s] 0]]) ?_ ?_ ?_
 ·simp[vZ,vP,Tr.get_set]
 ·unfold Zh;split<;>rfl
 unfold Zh vq;cases hf:qE.find? (fun x=>decide (x.1=s)) with
 | none =>
  have e:=h3 ([],[0,0,0,0,0,0]) a;simp only[↓vS,vT,simprocAttr];refine e.sc ?_;cases hn:jy ([],[0,0,0,0,0,0]) a with
  | none =>
   simp only[↓vS,vT,simprocAttr];simp[vZ]
  | some n =>
   simp only[↓vS,vT,simprocAttr];simp[vZ]
 | some x =>
  simp only[xy,↓vS,vT,simprocAttr];refine (h3 x a).sc ?_;cases hn:jy x a with
  | none =>
   simp only[↓vS,vT,simprocAttr];simp[vZ,hn]
  | some n =>
   simp only[↓vS,vT,simprocAttr];simp[vZ,hn]
end Go.Kc
end
section
/- The helpers of lower. Condition: the functions' texts are these. -/
namespace Go.Kc
variable {P:Program} {f:Nat}
def qS(mode:Int)(n:Nat)(al dn:Bool):Bool:=if mode=1 then al||decide (0<n) else if mode=2 then dn||decide (0<n) else false
def kQ:IFn:=⟨[.tmp 8],.seq (.r [.m 8 .F]) (.seq (.seq (.r [.n 9 0]) (.blk 0 (.seq (.r [.q 11 (.bin .eql (.t 9) (.c (.i .u8 1))),.n 10 11]) (.cond (.t 10) (.seq (.r [.n 12 2,.n 13 12,.z 14 1 13,.g 15 (.bin .gtr (.t 14) (.k 0)) 13 false,.o 16 13 15,.n 8 16]) (.ret)) (.seq (.r [.q 18 (.bin .eql (.t 9) (.c (.i .u8 2))),.n 17 18]) (.cond (.t 17) (.seq (.r [.n 19 3,.n 20 19,.z 21 1 20,.g 22 (.bin .gtr (.t 21) (.k 0)) 20 false,.o 23 20 22,.n 8 23]) (.ret)) (.skip))))))) (.seq (.r [.m 8 .F]) (.ret)))⟩
theorem ql5(hc:qt P f kQ=true)(mode:Int)(n:Nat)(al dn:Bool):qb P f [.i .u8 mode,.i .i64 n,.b al,.b dn] (.b (qS mode n al dn)):=by
 refine qb.mk hc rfl ?_;simp only[kQ,vI,simprocAttr]
 by_cases m1:mode=1
 ·cases al
  ·simp only[↓vS,vT,simprocAttr,m1];simp[vZ,qS]
  ·simp only[↓vS,vT,simprocAttr,m1];simp[vZ,qS]
 by_cases m2:mode=2
 ·cases dn
  ·simp only[↓vS,vT,simprocAttr,m1,m2];simp[vZ,qS]
  ·simp only[↓vS,vT,simprocAttr,m1,m2];simp[vZ,qS]
 simp only[↓vS,vT,simprocAttr,m1,m2];simp[vZ,qS,m1,m2]
def vm:IFn:=⟨[.tmp 2],.seq (.r [.m 2 (.c (.i .u32 0))]) (.seq (.r [.m 3 (.c (.i .u32 0))]) (.seq (.seq (.r [.n 6 0,.e 7 6,.m 8 (.k 0)]) (.blk 0 (.loop (.seq (.r [.s 9 8 7]) (.seq (.cond (.t 9) (.skip) (.exit 0)) (.seq (.blk 1 (.seq (.r [.i 10 1 6 8,.d 11 10,.n 5 11]) (.seq (.r [.n 12 5,.n 13 3,.b 14 .neq 12 13]) (.cond (.t 14) (.seq (.r [.n 15 5,.n 2 15]) (.ret)) (.skip))))) (.r [.a 16 8 1,.n 8 16]))))))) (.seq (.r [.n 17 3,.n 2 17]) (.ret))))⟩
theorem qpL(hc:qt P f vm=true)(x y:Int):qb P f [.fz 2 (rI .u32 [x,y])] (.i .u32 (if x=0 then y else x)):=by
 refine qb.mk hc (by simp[qx,clo,qc]) ?_;simp only[vm,rI,List.map_cons,List.map_nil,vI,simprocAttr];simp only[↓vS,vT,simprocAttr];refine vz ?_
 by_cases h1:x=0
 ·simp only[↓vS,vT,simprocAttr,Int.reduceLT,Int.reduceAdd,zg,Int.reduceLE,Int.reduceNeg,h1];refine vz ?_
  by_cases h2:y=0
  ·simp only[↓vS,vT,simprocAttr,Int.reduceLT,Int.reduceAdd,zg,Int.reduceLE,Int.reduceNeg,h2];refine vz ?_;simp only[↓vS,vT,simprocAttr,Int.reduceLT];simp[vZ,h1,h2]
  ·simp only[↓vS,vT,simprocAttr,Int.reduceLT,Int.reduceAdd,zg,Int.reduceLE,Int.reduceNeg,h2];simp[vZ,h1]
 ·simp only[↓vS,vT,simprocAttr,Int.reduceLT,Int.reduceAdd,zg,Int.reduceLE,Int.reduceNeg,h1];simp[vZ,h1]
def qH(arg mask act:Int)(l:List Int):List GTest:=l.map fun v=>⟨arg,mask,v,act⟩
def zf(arg act:Int)(l:List Int):List GTest:=l.map fun v=>⟨arg,v,v,act⟩
def qbO(P:Program)(f:Nat):Prop:=∀(arg mask act:Int) (l:List Int),l.length<=100000->Own P f [.i .i64 arg,.i .u64 mask,.i .u32 act,.fz l.length (rI .u64 l)] (.own 0 l.length) [.cells 4 true true (rT (qH arg mask act l))]
def qbM(P:Program)(f:Nat):Prop:=∀(arg act:Int) (l:List Int),l.length<=100000->Own P f [.i .i64 arg,.i .u32 act,.fz l.length (rI .u64 l)] (.own 0 l.length) [.cells 4 true true (rT (zf arg act l))]
def kR:IFn:=⟨[.tmp 8],.seq (.r [.m 8 .N]) (.seq (.r [.m 9 .N]) (.seq (.seq (.r [.n 12 3,.e 13 12,.m 14 (.k 0)]) (.blk 0 (.loop (.seq (.r [.s 15 14 13]) (.seq (.cond (.t 15) (.skip) (.exit 0)) (.seq (.blk 1 (.seq (.r [.i 16 1 12 14,.d 17 16,.n 11 17]) (.r [.n 18 9,.n 19 0,.n 20 1,.n 21 11,.n 22 2,.q 23 (.build [.i .i64 0,.i .u64 0,.i .u64 0,.i .u32 0] [(0,1,(.t 19)),(1,1,(.t 20)),(2,1,(.t 21)),(3,1,(.t 22))]),.q 24 (.buildS 1 [.i .i64 0,.i .u64 0,.i .u64 0,.i .u32 0] [(0,4,(.t 23))]),.q 25 (.app 4 32 true (.t 18) (.t 24)),.n 9 25]))) (.r [.a 26 14 1,.n 14 26]))))))) (.seq (.r [.n 27 9,.n 8 27]) (.ret))))⟩
theorem qnV(hc:qt P f kR=true):qbO P f:=by
 intro arg mask act l hl;refine Own.mk hc (by simp[qx,clo,qc]) ?_;simp only[kR,vI,simprocAttr];simp only[↓vS,vT,simprocAttr]
 refine SL.loop (α:=Nat) (fun j=>[(0,.i .i64 arg),(1,.i .u64 mask),(2,.i .u32 act),(9,.own 0 j),(12,.fz l.length (rI .u64 l)),(13,.i .i64 l.length),(14,.i .i64 j)]) (fun j=>[.cells 4 true true (rT (qH arg mask act (l.take j)))])
  (fun j=>j<=l.length) (fun j=>l.length-j) 0 [9] ?_ ?_ ?_ rfl ?_ ?_
 ·simp[vw,qc]
 ·simp[vw,rT,qH]
 ·simp
 ·exact Nat.zero_le _
 rintro j hj G ih;simp only[vI,simprocAttr]
 by_cases hlt:j<l.length
 ·have hx:l[j]?=some l[j]:=List.getElem?_eq_getElem hlt;have hw:IntKind.wrap .i64 ((j:Int)+1)=((j+1:Nat):Int):=by rw[zg (by omega) (by omega)];omega
  have hr1:j+1<=qg:=by simp only[qg];omega
  have hr2:(j+1)*32<=qg:=by simp only[qg];omega
  have hln:(rT (qH arg mask act (l.take j))).length=j*4:=by rw[QP];simp[qH];omega
  have hb:j*4<=(rT (qH arg mask act (l.take j))).length:=by omega
  have htk:(rT (qH arg mask act (l.take j))).take (j*4)=rT (qH arg mask act (l.take j)):=List.take_of_length_le (by omega)
  have hap:rT (qH arg mask act (l.take j))++[AV.i .i64 arg,.i .u64 mask,.i .u64 l[j],.i .u32 act]=rT (qH arg mask act (l.take (j+1))):=by
   rw[List.take_add_one,hx];simp only[Option.toList_some,qH,List.map_append,List.map_cons,List.map_nil];rw[← qdI];rfl
  simp (decide:=true) only [↓vS,vT,simprocAttr,hlt,Nat.mul_one,wc,hx,Option.map_some,hw,hr1,hr2,hln,htk,hap];refine ih (j+1) hlt (by omega) _ _ (Wk.mk _ _ [2] ?_ ?_ ?_ rfl)
  ·simp[vw,qc]
  ·simp[vw,ql,xf]
  ·simp
 ·have hj':j=l.length:=by omega
  subst hj';simp only[↓vS,vT,simprocAttr,hlt];intro _;refine⟨[0],?_⟩;simp[vw,ql,xf]
def yE:IFn:=⟨[.tmp 6],.seq (.r [.m 6 .N]) (.seq (.r [.m 7 .N]) (.seq (.seq (.r [.n 10 2,.e 11 10,.m 12 (.k 0)]) (.blk 0 (.loop (.seq (.r [.s 13 12 11]) (.seq (.cond (.t 13) (.skip) (.exit 0)) (.seq (.blk 1 (.seq (.r [.i 14 1 10 12,.d 15 14,.n 9 15]) (.r [.n 16 7,.n 17 0,.n 18 9,.n 19 9,.n 20 1,.q 21 (.build [.i .i64 0,.i .u64 0,.i .u64 0,.i .u32 0] [(0,1,(.t 17)),(1,1,(.t 18)),(2,1,(.t 19)),(3,1,(.t 20))]),.q 22 (.buildS 1 [.i .i64 0,.i .u64 0,.i .u64 0,.i .u32 0] [(0,4,(.t 21))]),.q 23 (.app 4 32 true (.t 16) (.t 22)),.n 7 23]))) (.r [.a 24 12 1,.n 12 24]))))))) (.seq (.r [.n 25 7,.n 6 25]) (.ret))))⟩
theorem qol(hc:qt P f yE=true):qbM P f:=by
 intro arg act l hl;refine Own.mk hc (by simp[qx,clo,qc]) ?_;simp only[yE,vI,simprocAttr];simp only[↓vS,vT,simprocAttr]
 refine SL.loop (α:=Nat) (fun j=>[(0,.i .i64 arg),(1,.i .u32 act),(7,.own 0 j),(10,.fz l.length (rI .u64 l)),(11,.i .i64 l.length),(12,.i .i64 j)]) (fun j=>[.cells 4 true true (rT (zf arg act (l.take j)))])
  (fun j=>j<=l.length) (fun j=>l.length-j) 0 [9] ?_ ?_ ?_ rfl ?_ ?_
 ·simp[vw,qc]
 ·simp[vw,rT,zf]
 ·simp
 ·exact Nat.zero_le _
 rintro j hj G ih;simp only[vI,simprocAttr]
 by_cases hlt:j<l.length
 ·have hx:l[j]?=some l[j]:=List.getElem?_eq_getElem hlt;have hw:IntKind.wrap .i64 ((j:Int)+1)=((j+1:Nat):Int):=by rw[zg (by omega) (by omega)];omega
  have hr1:j+1<=qg:=by simp only[qg];omega
  have hr2:(j+1)*32<=qg:=by simp only[qg];omega
  have hln:(rT (zf arg act (l.take j))).length=j*4:=by rw[QP];simp[zf];omega
  have htk:(rT (zf arg act (l.take j))).take (j*4)=rT (zf arg act (l.take j)):=List.take_of_length_le (by omega)
  have hap:rT (zf arg act (l.take j))++[AV.i .i64 arg,.i .u64 l[j],.i .u64 l[j],.i .u32 act]=rT (zf arg act (l.take (j+1))):=by
   rw[List.take_add_one,hx];simp only[Option.toList_some,zf,List.map_append,List.map_cons,List.map_nil];rw[← qdI];rfl
  simp (decide:=true) only [↓vS,vT,simprocAttr,hlt,Nat.mul_one,wc,hx,Option.map_some,hw,hr1,hr2,hln,htk,hap];refine ih (j+1) hlt (by omega) _ _ (Wk.mk _ _ [2] ?_ ?_ ?_ rfl)
  ·simp[vw,qc]
  ·simp[vw,ql,xf]
  ·simp
 ·have hj':j=l.length:=by omega
  subst hj';simp only[↓vS,vT,simprocAttr,hlt];intro _;refine⟨[0],?_⟩;simp[vw,ql,xf]
def zW(s:Int):List Int:=(qy.map (·.2)).filter fun n=>decide (zZ .u64 s n≠0)
def kS(a:Nat):IFn:=⟨[.tmp 2],.seq (.r [.m 2 .N]) (.seq (.r [.m 3 .N]) (.seq (.seq (.r [.l 6 a [],.m 7 (.k 0)]) (.blk 0 (.loop (.seq (.r [.w 8 .lss 7 8]) (.seq (.cond (.t 8) (.skip) (.exit 0)) (.seq (.blk 1 (.seq (.r [.q 9 (.idxA 8 2 true (.t 6) (.t 7)),.q 5 (.alloc [.s [],.i .u64 0]),.u (.store 2 (.t 5) (.t 9))]) (.seq (.r [.n 10 0,.f 11 1 5,.d 12 11,.b 13 .and 10 12,.q 14 (.bin .neq (.t 13) (.c (.i .u64 0)))]) (.cond (.t 14) (.r [.n 15 3,.f 16 1 5,.d 17 16,.q 18 (.buildS 1 [.i .u64 0] [(0,1,(.t 17))]),.q 19 (.app 1 8 true (.t 15) (.t 18)),.n 3 19]) (.skip))))) (.r [.a 20 7 1,.n 7 20]))))))) (.seq (.r [.n 21 3,.n 2 21]) (.ret))))⟩
theorem qlJ{g:Nat}(hc:qt P f (kS g)=true)(hg:qb P g [] (.agg (qy.flatMap (xd .u64))))(s:Int):qb P f [.i .u64 s] (.fz (zW s).length (rI .u64 (zW s))):=by
 refine qb.mk hc rfl ?_;simp only[kS,vI,simprocAttr];simp only[↓vS,vT,simprocAttr];refine hg.sc ?_;simp only[↓vS,vT,simprocAttr];have hlen:(qy.flatMap (xd .u64)).length=16:=by decide
 refine SL.loop (α:=Nat) (fun j=>[(0,.i .u64 s),(3,.own 0 ((((qy.take j).map (·.2)).filter fun n=>decide (zZ .u64 s n≠0)).length)),(6,.agg (qy.flatMap (xd .u64))),(7,.i .i64 j)])
  (fun j=>[.cells 1 true true (rI .u64 (((qy.take j).map (·.2)).filter fun n=>decide (zZ .u64 s n≠0)))])
  (fun j=>j<=8) (fun j=>8-j) 0 [9] ?_ ?_ ?_ rfl ?_ ?_
 ·simp[vw,qy,xd]
 ·simp[vw,rI]
 ·simp
 ·exact Nat.zero_le _
 rintro j hj G ih;simp only[vI,simprocAttr]
 by_cases hlt:j<8
 ·have hlt':(j:Int)<8:=by omega
  have hjl:j<qy.length:=hlt;have hx:qy[j]?=some qy[j]:=List.getElem?_eq_getElem hjl;have hw:IntKind.wrap .i64 ((j:Int)+1)=((j+1:Nat):Int):=by rw[zg (by omega) (by omega)];omega
  have he:=xj (f:=xd .u64) (m:=2) Qs hx;have hb:j*2+2<=(qy.flatMap (xd .u64)).length:=by omega
  generalize hA:((qy.take j).map (·.2)).filter (fun n=>decide (zZ .u64 s n≠0))=A
  have hA1:((qy.take (j+1)).map (·.2)).filter (fun n=>decide (zZ .u64 s n≠0))=A++(if zZ .u64 s qy[j].2=0 then [] else [qy[j].2]):=by
   rw[List.take_add_one,hx,List.map_append,List.filter_append,hA]
   by_cases h:zZ .u64 s qy[j].2=0<;>simp[h]
  have hAl:A.length<=j:=by
   rw[← hA];refine Nat.le_trans (List.length_filter_le _ _) ?_;simp;omega
  generalize hc0:qy[j]=c at hx he hA1;generalize hT:qy.flatMap (xd .u64)=T at he hb hlen;have hTc:qx T=true:=by rw[← hT];rfl
  have hr1:A.length+1<=qg:=by simp only[qg];omega
  have hr2:(A.length+1)*8<=qg:=by simp only[qg];omega
  by_cases h0:zZ .u64 s c.2=0
  ·rw[if_pos h0,List.append_nil] at hA1;simp only[↓vS,vT,simprocAttr,hlt',hlt,he,hb,xd,h0,hw];refine ih (j+1) hlt (by omega) _ _ (Wk.mk _ _ [0] ?_ ?_ ?_ rfl)
   ·rw[hA1,hT];simp[vw,ql,hTc]
   ·rw[hA1];simp[vw,ql,qc]
   ·simp
  ·rw[if_neg h0] at hA1;have hap:rI .u64 A++[AV.i .u64 c.2]=rI .u64 (A++[c.2]):=by rw[← qhw];rfl
   simp (decide:=true) only [↓vS,vT,simprocAttr,hlt',hlt,he,hb,xd,h0,hw,hr1,hr2,qhx,Nat.mul_one,hap];refine ih (j+1) hlt (by omega) _ _ (Wk.mk _ _ [3] ?_ ?_ ?_ rfl)
   ·rw[hA1,hT];simp[vw,ql,hTc]
   ·rw[hA1];simp[vw,ql,qc]
   ·simp
 ·have hj':j=8:=by omega
  subst hj';have hlt':¬(((8:Nat):Int)<8):=by decide
  simp only[↓vS,vT,simprocAttr,hlt'];refine .own 0 _ 1 true _ _ ?_ (fun h0=>?_) (Frzs.self qc)
  ·simp[Tr.get_set,zW,qy]
  ·have h0:(zW s).length=0:=h0;rw[List.eq_nil_of_length_eq_zero h0];rfl
def qR:IFn:=⟨[.tmp 2],.seq (.r [.m 2 .N]) (.seq (.seq (.r [.n 3 0,.q 4 (.eqN false .slice (.t 3))]) (.cond (.t 4) (.seq (.r [.m 2 .N]) (.ret)) (.skip))) (.seq (.r [.q 5 (.buildS 0 [.i .i64 0,.i .u64 0,.i .u64 0,.i .u32 0] []),.n 6 0,.q 7 (.app 4 32 true (.t 5) (.t 6)),.n 2 7]) (.ret)))⟩
theorem qlq(hc:qt P f qR=true):qbN P f 4 32:=by
 intro n rows hlen hcl hok hr1 hr2;refine Own.of_SC (by simp[qx,clo]) ?_;cases n with
 | zero =>
  obtain rfl:rows=[]:=by cases rows with|nil=>rfl|cons=>simp at hlen
  refine SC.nil0 (SC.mk hc (qP ?_)) (SC.mk hc (qP ?_))
  ·simp only[qR,vI,simprocAttr];simp only[↓vS,vT,simprocAttr];intro _;refine⟨[1],?_⟩;simp[vw]
  ·simp only[qR,vI,simprocAttr];simp only[↓vS,vT,simprocAttr,if_true];intro _;refine⟨[1],?_⟩;simp[vw]
 | succ n =>
  refine SC.mk hc (qP ?_);simp only[qR,vI,simprocAttr];have h1:1<=n+1:=by omega
  have h2:(n+1)*4<=rows.length:=by omega
  have h3:rows.take ((n+1)*4)=rows:=List.take_of_length_le (by omega);have h4:¬(n+1<=0):=by omega
  simp only[↓vS,vT,simprocAttr,h1,h2,h3,h4,hr1,hr2,hok,Nat.mul_one,Nat.zero_mul];intro _;refine⟨[1],?_⟩;simp[vw,ql,hcl]
end Go.Kc
end
section
/- The rule method of lower's maker. Condition: the functions' texts are these. -/
namespace Go.Kc
variable {P:Program} {f:Nat}
def mkC(p:Pol)(a d:Int)(b n:Nat):List AV:=qr p++[.i .i64 a,.own b n,.i .u32 d]
def mkB(p:Pol)(a d:Int)(b n:Nat):Blk:=.cells 0 true false (mkC p a d b n)
def qN(a act:Int)(ts:List GTest)(ns:List (List UInt8)):List GRule:=ns.filterMap fun s=>(vq a s).map fun n=>⟨n,ts,act⟩
def j8(P:Program)(f:Nat):Prop:=∀(p:Pol) (a d act:Int) (ts:List GTest) (ns:List (List UInt8)) (rs:List GRule),ts.length<=100000->rs.length+ns.length<=100000->
 Upd P f [.ptr 0 0,.i .u32 act,.fz ts.length (rT ts),.fz ns.length (rS ns)] [mkB p a d 1 rs.length,.cells 3 true true (rR rs)] (.tup [])
  [mkB p a d 2 (rs++qN a act ts ns).length,.dead,.cells 3 true true (rR (rs++qN a act ts ns))]
def wi(a b:Nat):IFn:=⟨[],.seq (.r [.n 12 3,.e 13 12,.m 14 (.k 0)]) (.blk 0 (.loop (.seq (.r [.s 15 14 13]) (.seq (.cond (.t 15) (.skip) (.exit 0)) (.seq (.blk 1 (.seq (.r [.i 16 1 12 14,.d 17 16,.n 9 17]) (.seq (.r [.n 19 0,.q 20 (.nilChk (.t 19)),.f 21 13 20,.f 22 0 21,.d 23 22,.n 24 9,.l 25 a [.t 23,.t 24],.n 18 25,.x 26 18 0,.x 27 18 1,.n 10 26,.n 11 27]) (.seq (.r [.n 28 11,.w 29 .eql 28 0]) (.cond (.t 29) (.reg true [.n 30 0,.n 31 0,.q 32 (.nilChk (.t 31)),.f 33 13 32,.f 34 1 33,.d 35 34,.n 36 10,.n 37 2,.l 38 b [.t 37],.n 39 1,.q 40 (.build [.i .u32 0,.nils,.i .u32 0] [(0,1,(.t 36)),(1,1,(.t 38)),(2,1,(.t 39))]),.q 41 (.buildS 1 [.i .u32 0,.nils,.i .u32 0] [(0,3,(.t 40))]),.q 42 (.app 3 40 true (.t 35) (.t 41)),.q 43 (.nilChk (.t 30)),.f 44 13 43,.f 45 1 44,.u (.store 1 (.t 45) (.t 42))]) (.skip)))))) (.r [.a 46 14 1,.n 14 46]))))))⟩
theorem qo5{g1 g2:Nat}(hc:qt P f (wi g1 g2)=true)
  (h1:∀(a:Int) (s:List UInt8),qb P g1 [.i .i64 a,.s s] (match vq a s with|some n=>.tup [.i .u32 n,.i .i64 0]|none=>.tup [.i .u32 0,.i .i64 90])) (h2:qbN P g2 4 32):j8 P f:=by
 intro p a d act ts ns rs hts hrs;refine Upd.mkd hc (by simp[xS,bnd,mkB]) (by simp) ?_;simp only[wi,mkB,mkC,qr,vI,simprocAttr,List.cons_append,List.nil_append];simp only[↓vS,vT,simprocAttr]
 refine SL.loopd (α:=Nat) (fun j=>[(0,.ptr 0 0),(1,.i .u32 act),(2,.fz ts.length (rT ts)),(12,.fz ns.length (rS ns)),(13,.i .i64 ns.length),(14,.i .i64 j)])
  (fun j=>[mkB p a d 2 (rs++qN a act ts (ns.take j)).length,.dead,.cells 3 true true (rR (rs++qN a act ts (ns.take j)))])
  (fun j=>j<=ns.length) (fun j=>ns.length-j) 0 [0,1,1] ?_ ?_ ?_ rfl (by simp) ?_ ?_ ?_
 ·simp[vw,xf,qb7]
 ·simp[vw,mkB,mkC,qr,qN,ql,qi,qe,qc]
 ·simp[zx,mkB]
 ·intro b hb;have:b=0∨b=1:=by omega
  rcases this with rfl|rfl<;>simp[kZ,rl]
 ·exact Nat.zero_le _
 rintro j hj G ih;simp only[vI,simprocAttr,mkB,mkC,qr,List.cons_append,List.nil_append]
 by_cases hlt:j<ns.length
 ·have hx:ns[j]?=some ns[j]:=List.getElem?_eq_getElem hlt;have hg:(rS ns)[j]?=some (.s ns[j]):=by rw[qmY,hx];rfl
  have hw:IntKind.wrap .i64 ((j:Int)+1)=((j+1:Nat):Int):=by rw[zg (by omega) (by omega)];omega
  have hnx:qN a act ts (ns.take (j+1))=qN a act ts (ns.take j)++((vq a ns[j]).map fun n=>⟨n,ts,act⟩).toList:=by
   rw[List.take_add_one,hx];unfold qN;rw[List.filterMap_append];cases hq:vq a ns[j]<;>simp[hq]
  have hl1:(qN a act ts (ns.take j)).length<=j:=by
   unfold qN;refine Nat.le_trans (List.length_filterMap_le _ _) ?_;simp;omega
  generalize hA:rs++qN a act ts (ns.take j)=A;have hAl:A.length<=rs.length+j:=by rw[← hA];simp;omega
  have hA1:rs++qN a act ts (ns.take (j+1))=A++((vq a ns[j]).map fun n=>⟨n,ts,act⟩).toList:=by rw[hnx,← List.append_assoc,hA]
  generalize hs0:ns[j]=s at hg hA1;simp only[↓vS,vT,simprocAttr,hlt,Nat.mul_one,hg];refine (h1 a s).sc ?_;cases hn:vq a s with
  | none =>
   rw[hn] at hA1;simp only[Option.map_none,Option.toList_none,List.append_nil] at hA1;simp (decide:=true) only [↓vS,vT,simprocAttr,hw];refine ih (j+1) hlt (by omega) _ _ (Wk.mkd _ _ [0,1,2] ?_ ?_ ?_ rfl (by simp) ?_)
   ·simp[vw,xf,qb7]
   ·rw[hA1];simp[vw,mkB,mkC,qr,ql,qi,qe,qc]
   ·simp[zx,mkB]
   ·intro b hb;have:b=0∨b=1:=by omega
    rcases this with rfl|rfl<;>simp[kZ,rl]
  | some n =>
   rw[hn] at hA1;simp only[Option.map_some,Option.toList_some] at hA1;have hr1:A.length+1<=qg:=by simp only[qg];omega
   have hr2:(A.length+1)*40<=qg:=by simp only[qg];omega
   simp (decide:=true) only [↓vS,vT,simprocAttr,hw];refine kC ?_;simp only[↓vS,vT,simprocAttr];refine (h2.pure QP xf qkM (by simp only[qg];omega) (by simp only[qg];omega)).pc ?_;have hap:rR A++[AV.i .u32 n,.fz ts.length (rT ts),.i .u32 act]=rR (A++[⟨n,ts,act⟩]):=by rw[← qmX];rfl
   have htk:(rR A).take (A.length*3)=rR A:=List.take_of_length_le (by rw[QO];omega);simp (decide:=true) only [↓vS,vT,simprocAttr,hr1,hr2,QO,htk,hap];refine ih (j+1) hlt (by omega) _ _ (Wk.mkd _ _ [0,1,4] ?_ ?_ ?_ rfl (by simp) ?_)
   ·simp[vw,xf,qb7];exact zg (by omega) (by omega)
   ·rw[hA1];simp[vw,mkB,mkC,qr,ql,qi,qe,qc]
   ·simp[zx,mkB]
   ·intro b hb;have:b=0∨b=1:=by omega
    rcases this with rfl|rfl<;>simp[kZ,rl]
 ·have hj':j=ns.length:=by omega
  subst hj';simp only[↓vS,vT,simprocAttr,hlt];intro _;rw[List.take_length];refine⟨[0,1,2],?_⟩;simp[vw,mkB,mkC,qr,ql,qi,qe,qc,zx,rl];intro b hb;have:b=0∨b=1:=by omega
  rcases this with rfl|rfl<;>simp
end Go.Kc
end
section
/- The filter and log methods of lower's maker. Condition: the functions' texts are these. -/
namespace Go.Kc
variable {P:Program} {f:Nat}
def zk(P:Program)(f:Nat)(F:Pol->Int->Bool×List GRule×Int):Prop:=∀(p:Pol) (a:Int),PolOk p->PolR p->
 Upd P f [.ptr 0 0] [mkB p a 2147418112 1 0,.cells 3 true true (rR [])] (.b (F p a).1) [mkB p a (F p a).2.2 2 (F p a).2.1.length,.dead,.cells 3 true true (rR (F p a).2.1)]
def Qa(a own:Int)(l:List GCall):List GRule:=l.flatMap fun c=>qN a (if c.act=0 then own else c.act) [] [c.name]
def qax(p:Pol)(a:Int):Bool×List GRule×Int:=(qS p.filter.mode p.filter.calls.length true false,Qa a (if p.filter.mode=1 then 2147418112 else p.deny) p.filter.calls,if p.filter.mode=1 then p.deny else 2147418112)
theorem xV(a act:Int)(ts:List GTest)(ns:List (List UInt8)):(qN a act ts ns).length<=ns.length:=List.length_filterMap_le _ _
theorem qcB(a own:Int):∀l,(Qa a own l).length<=l.length
 | []=>Nat.le_refl _
 | c::l=>by
  have h1:=qcB a own l;have h2:=xV a (if c.act=0 then own else c.act) [] [c.name]
  simp only[Qa,List.flatMap_cons,List.length_append,List.length_cons,List.length_nil] at h1 h2 ⊢;omega
theorem qeT{a own:Int}{l:List GCall}{j:Nat}{c:GCall}(h:l[j]?=some c):Qa a own (l.take (j+1))=Qa a own (l.take j)++qN a (if c.act=0 then own else c.act) [] [c.name]:=by
 rw[List.take_add_one,h];simp[Qa]
def z8(a b c:Nat):ICode:=.seq (.seq (.r [.n 27 0,.q 28 (.nilChk (.t 27)),.f 29 0 28,.f 30 1 29,.f 31 1 30,.d 32 31,.e 33 32,.m 34 (.k 0)]) (.blk 0 (.loop (.seq (.r [.s 35 34 33]) (.seq (.cond (.t 35) (.skip) (.exit 0)) (.seq (.blk 1 (.seq (.r [.i 36 2 32 34,.v 37 2 36,.q 5 (.alloc [.s [],.i .u32 0]),.u (.store 2 (.t 5) (.t 37))]) (.reg true [.n 38 0,.f 39 1 5,.d 40 39,.n 41 3,.q 42 (.buildS 2 [.i .u32 0] [(0,1,(.t 40)),(1,1,(.t 41))]),.l 43 a [.t 42],.f 44 0 5,.d 45 44,.q 46 (.buildS 1 [.s []] [(0,1,(.t 45))]),⟨(some 47),.callW b [.t 38,.t 43,.N,.t 46],none⟩]))) (.r [.a 48 34 1,.n 34 48]))))))) (.seq (.reg true [.n 49 0,.q 50 (.nilChk (.t 49)),.f 51 0 50,.f 52 1 51,.f 53 0 52,.d 54 53,.n 55 0,.q 56 (.nilChk (.t 55)),.f 57 0 56,.f 58 1 57,.f 59 1 58,.d 60 59,.e 61 60,.l 62 c [.t 54,.t 61,.T,.F],.n 2 62]) (.ret))
def jH(a b c:Nat):IFn:=⟨[.tmp 2],.seq (.r [.m 2 .F]) (.seq (.r [.n 6 0,.q 7 (.nilChk (.t 6)),.f 8 0 7,.f 9 3 8,.d 10 9,.n 3 10]) (.seq (.seq (.r [.n 11 0,.q 12 (.nilChk (.t 11)),.f 13 0 12,.f 14 1 13,.f 15 0 14,.d 16 15,.q 17 (.bin .eql (.t 16) (.c (.i .u8 1)))]) (.cond (.t 17) (.r [.n 18 0,.n 19 0,.q 20 (.nilChk (.t 19)),.f 21 0 20,.f 22 3 21,.d 23 22,.q 24 (.nilChk (.t 18)),.f 25 13 24,.f 26 2 25,.u (.store 1 (.t 26) (.t 23)),.m 3 (.c (.i .u32 2147418112))]) (.skip))) (.cut (z8 a b c))))⟩
theorem qaP{g1 g2 g3:Nat}(h1:∀x y,qb P g1 [.fz 2 (rI .u32 [x,y])] (.i .u32 (if x=0 then y else x)))(h2:j8 P g2)(h3:∀mode n al dn,qb P g3 [.i .u8 mode,.i .i64 (n:Nat),.b al,.b dn] (.b (qS mode n al dn)))
  (p:Pol) (a d own:Int) (hp:PolOk p) {t':Tr AV} {h':Hp} (hw:Wk 2 t' h' (mkT [(0,.ptr 0 0),(3,.i .u32 own)]) (mkH 0 [mkB p a d 1 0,.cells 3 true true (rR [])])) :
  S P 2 (z8 g1 g2 g3) (jJ [.tmp 2] (qdg 2 (.b (qS p.filter.mode p.filter.calls.length true false)) [mkB p a d 2 (Qa a own p.filter.calls).length,.dead,.cells 3 true true (rR (Qa a own p.filter.calls))])) t' h':=by
 have hl:=hp.c;refine S.weak hw (qP ?_);simp only[z8,mkB,mkC,qr,List.cons_append,List.nil_append,vI,simprocAttr];simp only[↓vS,vT,simprocAttr]
 refine SL.loopd (α:=Nat) (fun j=>[(0,.ptr 0 0),(3,.i .u32 own),(32,.fz p.filter.calls.length (rC p.filter.calls)),(33,.i .i64 p.filter.calls.length),(34,.i .i64 j)])
  (fun j=>[mkB p a d 2 (Qa a own (p.filter.calls.take j)).length,.dead,.cells 3 true true (rR (Qa a own (p.filter.calls.take j)))])
  (fun j=>j<=p.filter.calls.length) (fun j=>p.filter.calls.length-j) 0 [0,1,1] ?_ ?_ ?_ rfl (by simp) ?_ ?_ ?_
 ·simp[vw,qe]
 ·simp[vw,mkB,mkC,qr,Qa,ql,qi,qe,qc]
 ·simp[zx,mkB]
 ·intro b hb;have:b=0∨b=1:=by omega
  rcases this with rfl|rfl<;>simp[kZ,rl]
 ·exact Nat.zero_le _
 rintro j hj G ih;simp only[vI,simprocAttr,mkB,mkC,qr,List.cons_append,List.nil_append]
 by_cases hlt:j<p.filter.calls.length
 ·have hx:p.filter.calls[j]?=some p.filter.calls[j]:=List.getElem?_eq_getElem hlt;have he:=qb6 hx;have hb:=qaU hlt;have hw:IntKind.wrap .i64 ((j:Int)+1)=((j+1:Nat):Int):=by rw[zg (by omega) (by omega)];omega
  have hA1:=qeT (a:=a) (own:=own) hx;have hl1:=qcB a own (p.filter.calls.take j);rw[List.length_take,Nat.min_eq_left (by omega)] at hl1;generalize hA:Qa a own (p.filter.calls.take j)=A at hA1 hl1;generalize hc0:p.filter.calls[j]=c at he hA1;simp only[↓vS,vT,simprocAttr,hlt,hb,he,jG];refine kC ?_;simp only[↓vS,vT,simprocAttr];refine (h1 c.act own).lendp (vs':=[.fz 2 (rI .u32 [c.act,own])]) ?_ rfl ?_
  ·refine .cons _ _ _ _ (.cut 1 rfl (Nat.le_refl _) ?_) .nil;simp[vw,rI]
  simp only[↓vS,vT,simprocAttr];refine PC.give (vs':=[.ptr 0 0,.i .u32 (if c.act=0 then own else c.act),.fz 0 (rT []),.fz 1 (rS [c.name])]) [(5,.cells 0 true false [.s c.name])] ?_ ?_ ?_
  ·intro q hq;simp at hq;subst hq;simp[Tr.get_set]
  ·refine .keep _ _ _ (.keep _ _ _ (.fz _ _ _ _ .nilz (.fz _ _ _ _ (.cut 1 rfl (Nat.le_refl _) ?_) .nil)));simp[vw,trP,rS]
  simp only[ze,zw,zC];refine (h2 p a d (if c.act=0 then own else c.act) [] [c.name] A (by simp) (by simp;omega)).pc (vs:=[.ptr 0 0,.i .u32 (if c.act=0 then own else c.act),.fz 0 (rT []),.fz 1 (rS [c.name])]) [0,2] (Lent.of (by decide) ?_) ?_
  ·simp[vL,vw,mkB,mkC,qr,qw qi,qd qi,qw qe,qd qe,qw qc,qd qc]
  rw[← hA1];simp only[vK,simprocAttr,mkB,mkC,qr,List.cons_append,List.nil_append,qd qi,qd qe,qd qc];simp only[↓vS,vT,simprocAttr,hw];refine ih (j+1) hlt (by omega) _ _ (Wk.mkd _ _ [0,1,6] ?_ ?_ ?_ rfl (by simp) ?_)
  ·simp[vw,qe]
  ·simp[vw,mkB,mkC,qr,ql,qi,qe,qc]
  ·simp[zx,mkB]
  ·intro b hb;have:b=0∨b=1:=by omega
   rcases this with rfl|rfl<;>simp[kZ,rl]
 ·have hj':j=p.filter.calls.length:=by omega
  subst hj';simp only[↓vS,vT,simprocAttr,hlt];refine kC ?_;simp only[↓vS,vT,simprocAttr];refine (h3 p.filter.mode p.filter.calls.length true false).pc ?_;simp only[↓vS,vT,simprocAttr];rw[List.take_length];intro _;refine⟨[0,1,2],?_⟩;simp[vw,mkB,mkC,qr,ql,qi,qe,qc,zx,rl];intro b hb;have:b=0∨b=1:=by omega
  rcases this with rfl|rfl<;>simp
theorem qkF{g1 g2 g3:Nat}(hc:qt P f (jH g1 g2 g3)=true)(h1:∀x y,qb P g1 [.fz 2 (rI .u32 [x,y])] (.i .u32 (if x=0 then y else x)))(h2:j8 P g2)(h3:∀mode n al dn,qb P g3 [.i .u8 mode,.i .i64 (n:Nat),.b al,.b dn] (.b (qS mode n al dn))):zk P f qax:=by
 intro p a hp hR;refine Upd.mkd hc (by simp[xS,bnd,mkB]) (by simp) ?_;simp only[jH,mkB,mkC,qr,vI,simprocAttr,List.cons_append,List.nil_append]
 by_cases m:p.filter.mode=1
 ·simp only[↓vS,vT,simprocAttr,m];have e:qax p a=(qS p.filter.mode p.filter.calls.length true false,Qa a 2147418112 p.filter.calls,p.deny):=by simp[qax,m]
  rw[e];refine qaP h1 h2 h3 p a p.deny 2147418112 hp (Wk.mkd _ _ [0,1] ?_ ?_ ?_ rfl (by simp) ?_)
  ·simp[vw]
  ·simp[vw,mkB,mkC,qr,ql,qi,qe,qc,m,rR]
  ·simp[zx,mkB]
  ·intro b hb;have:b=0∨b=1:=by omega
   rcases this with rfl|rfl<;>simp[kZ,rl]
 ·simp only[↓vS,vT,simprocAttr,m];have e:qax p a=(qS p.filter.mode p.filter.calls.length true false,Qa a p.deny p.filter.calls,2147418112):=by simp[qax,m]
  rw[e];refine qaP h1 h2 h3 p a 2147418112 p.deny hp (Wk.mkd _ _ [0,1] ?_ ?_ ?_ rfl (by simp) ?_)
  ·simp[vw]
  ·simp[vw,mkB,mkC,qr,ql,qi,qe,qc,rR]
  ·simp[zx,mkB]
  ·intro b hb;have:b=0∨b=1:=by omega
   rcases this with rfl|rfl<;>simp[kZ,rl]
end Go.Kc
end
section
/- The log method of lower's maker. Condition: the functions' texts are these. -/
namespace Go.Kc
variable {P:Program} {f:Nat}
def Qn(a own:Int)(l:List GCall):List GRule:=l.flatMap fun c=>qN a own [] [c.name]
def qaL(p:Pol)(a:Int):Bool×List GRule×Int:=(qS p.log.mode p.log.calls.length false true,Qn a (if p.log.mode=2 then 2147418112 else 2147221504) p.log.calls,if p.log.mode=2 then 2147221504 else 2147418112)
theorem qcY(a own:Int):∀l,(Qn a own l).length<=l.length
 | []=>Nat.le_refl _
 | c::l=>by
  have h1:=qcY a own l;have h2:=xV a own [] [c.name];simp only[Qn,List.flatMap_cons,List.length_append,List.length_cons,List.length_nil] at h1 h2 ⊢;omega
theorem qe6{a own:Int}{l:List GCall}{j:Nat}{c:GCall}(h:l[j]?=some c):Qn a own (l.take (j+1))=Qn a own (l.take j)++qN a own [] [c.name]:=by
 rw[List.take_add_one,h];simp[Qn]
def xB(a b:Nat):ICode:=.seq (.seq (.r [.n 17 0,.q 18 (.nilChk (.t 17)),.f 19 0 18,.f 20 4 19,.f 21 1 20,.d 22 21,.e 23 22,.m 24 (.k 0)]) (.blk 0 (.loop (.seq (.r [.s 25 24 23]) (.seq (.cond (.t 25) (.skip) (.exit 0)) (.seq (.blk 1 (.seq (.r [.i 26 2 22 24,.v 27 2 26,.q 5 (.alloc [.s [],.i .u32 0]),.u (.store 2 (.t 5) (.t 27))]) (.r [.n 28 0,.n 29 3,.f 30 0 5,.d 31 30,.q 32 (.buildS 1 [.s []] [(0,1,(.t 31))]),.l 33 a [.t 28,.t 29,.N,.t 32]]))) (.r [.a 34 24 1,.n 24 34]))))))) (.seq (.reg true [.n 35 0,.q 36 (.nilChk (.t 35)),.f 37 0 36,.f 38 4 37,.f 39 0 38,.d 40 39,.n 41 0,.q 42 (.nilChk (.t 41)),.f 43 0 42,.f 44 4 43,.f 45 1 44,.d 46 45,.e 47 46,.l 48 b [.t 40,.t 47,.F,.T],.n 2 48]) (.ret))
def wC(a b:Nat):IFn:=⟨[.tmp 2],.seq (.r [.m 2 .F]) (.seq (.r [.m 3 (.c (.i .u32 2147221504))]) (.seq (.seq (.r [.n 6 0,.q 7 (.nilChk (.t 6)),.f 8 0 7,.f 9 4 8,.f 10 0 9,.d 11 10,.q 12 (.bin .eql (.t 11) (.c (.i .u8 2)))]) (.cond (.t 12) (.r [.n 13 0,.q 14 (.nilChk (.t 13)),.f 15 13 14,.f 16 2 15,.u (.store 1 (.t 16) (.c (.i .u32 2147221504))),.m 3 (.c (.i .u32 2147418112))]) (.skip))) (.cut (xB a b))))⟩
theorem qee{g2 g3:Nat}(h2:j8 P g2)(h3:∀mode n al dn,qb P g3 [.i .u8 mode,.i .i64 (n:Nat),.b al,.b dn] (.b (qS mode n al dn)))
  (p:Pol) (a d own:Int) (hp:PolOk p) {t':Tr AV} {h':Hp} (hw:Wk 2 t' h' (mkT [(0,.ptr 0 0),(3,.i .u32 own)]) (mkH 0 [mkB p a d 1 0,.cells 3 true true (rR [])])) :
  S P 2 (xB g2 g3) (jJ [.tmp 2] (qdg 2 (.b (qS p.log.mode p.log.calls.length false true)) [mkB p a d 2 (Qn a own p.log.calls).length,.dead,.cells 3 true true (rR (Qn a own p.log.calls))])) t' h':=by
 have hl:=hp.l;refine S.weak hw (qP ?_);simp only[xB,mkB,mkC,qr,List.cons_append,List.nil_append,vI,simprocAttr];simp only[↓vS,vT,simprocAttr]
 refine SL.loopd (α:=Nat) (fun j=>[(0,.ptr 0 0),(3,.i .u32 own),(22,.fz p.log.calls.length (rC p.log.calls)),(23,.i .i64 p.log.calls.length),(24,.i .i64 j)])
  (fun j=>[mkB p a d 2 (Qn a own (p.log.calls.take j)).length,.dead,.cells 3 true true (rR (Qn a own (p.log.calls.take j)))])
  (fun j=>j<=p.log.calls.length) (fun j=>p.log.calls.length-j) 0 [0,1,1] ?_ ?_ ?_ rfl (by simp) ?_ ?_ ?_
 ·simp[vw,qe]
 ·simp[vw,mkB,mkC,qr,Qn,ql,qi,qe,qc]
 ·simp[zx,mkB]
 ·intro b hb;have:b=0∨b=1:=by omega
  rcases this with rfl|rfl<;>simp[kZ,rl]
 ·exact Nat.zero_le _
 rintro j hj G ih;simp only[vI,simprocAttr,mkB,mkC,qr,List.cons_append,List.nil_append]
 by_cases hlt:j<p.log.calls.length
 ·have hx:p.log.calls[j]?=some p.log.calls[j]:=List.getElem?_eq_getElem hlt;have he:=qb6 hx;have hb:=qaU hlt;have hw:IntKind.wrap .i64 ((j:Int)+1)=((j+1:Nat):Int):=by rw[zg (by omega) (by omega)];omega
  have hA1:=qe6 (a:=a) (own:=own) hx;have hl1:=qcY a own (p.log.calls.take j);rw[List.length_take,Nat.min_eq_left (by omega)] at hl1;generalize hA:Qn a own (p.log.calls.take j)=A at hA1 hl1;generalize hc0:p.log.calls[j]=c at he hA1;simp only[↓vS,vT,simprocAttr,hlt,hb,he,jG];refine SC.give (vs':=[.ptr 0 0,.i .u32 own,.fz 0 (rT []),.fz 1 (rS [c.name])]) [(4,.cells 0 true false [.s c.name])] ?_ ?_ ?_
  ·intro q hq;simp at hq;subst hq;simp[Tr.get_set]
  ·refine .keep _ _ _ (.keep _ _ _ (.fz _ _ _ _ .nilz (.fz _ _ _ _ (.cut 1 rfl (Nat.le_refl _) ?_) .nil)));simp[vw,trP,rS]
  simp only[ze,zw,zC];refine (h2 p a d own [] [c.name] A (by simp) (by simp;omega)).sc (vs:=[.ptr 0 0,.i .u32 own,.fz 0 (rT []),.fz 1 (rS [c.name])]) [0,2] (Lent.of (by decide) ?_) ?_
  ·simp[vL,vw,mkB,mkC,qr,qw qi,qd qi,qw qe,qd qe,qw qc,qd qc]
  rw[← hA1];simp only[vK,simprocAttr,mkB,mkC,qr,List.cons_append,List.nil_append,qd qi,qd qe,qd qc];simp only[↓vS,vT,simprocAttr,hw];refine ih (j+1) hlt (by omega) _ _ (Wk.mkd _ _ [0,1,5] ?_ ?_ ?_ rfl (by simp) ?_)
  ·simp[vw,qe]
  ·simp[vw,mkB,mkC,qr,ql,qi,qe,qc]
  ·simp[zx,mkB]
  ·intro b hb;have:b=0∨b=1:=by omega
   rcases this with rfl|rfl<;>simp[kZ,rl]
 ·have hj':j=p.log.calls.length:=by omega
  subst hj';simp only[↓vS,vT,simprocAttr,hlt];refine kC ?_;simp only[↓vS,vT,simprocAttr];refine (h3 p.log.mode p.log.calls.length false true).pc ?_;simp only[↓vS,vT,simprocAttr];rw[List.take_length];intro _;refine⟨[0,1,2],?_⟩;simp[vw,mkB,mkC,qr,ql,qi,qe,qc,zx,rl];intro b hb;have:b=0∨b=1:=by omega
  rcases this with rfl|rfl<;>simp
theorem qoQ{g2 g3:Nat}(hc:qt P f (wC g2 g3)=true)(h2:j8 P g2)(h3:∀mode n al dn,qb P g3 [.i .u8 mode,.i .i64 (n:Nat),.b al,.b dn] (.b (qS mode n al dn))):zk P f qaL:=by
 intro p a hp hR;refine Upd.mkd hc (by simp[xS,bnd,mkB]) (by simp) ?_;simp only[wC,mkB,mkC,qr,vI,simprocAttr,List.cons_append,List.nil_append]
 by_cases m:p.log.mode=2
 ·simp only[↓vS,vT,simprocAttr,m];have e:qaL p a=(qS p.log.mode p.log.calls.length false true,Qn a 2147418112 p.log.calls,2147221504):=by simp[qaL,m]
  rw[e];refine qee h2 h3 p a 2147221504 2147418112 hp (Wk.mkd _ _ [0,1] ?_ ?_ ?_ rfl (by simp) ?_)
  ·simp[vw]
  ·simp[vw,mkB,mkC,qr,ql,qi,qe,qc,m,rR]
  ·simp[zx,mkB]
  ·intro b hb;have:b=0∨b=1:=by omega
   rcases this with rfl|rfl<;>simp[kZ,rl]
 ·simp only[↓vS,vT,simprocAttr,m];have e:qaL p a=(qS p.log.mode p.log.calls.length false true,Qn a 2147221504 p.log.calls,2147418112):=by simp[qaL,m]
  rw[e];refine qee h2 h3 p a 2147418112 2147221504 hp (Wk.mkd _ _ [0,1] ?_ ?_ ?_ rfl (by simp) ?_)
  ·simp[vw]
  ·simp[vw,mkB,mkC,qr,ql,qi,qe,qc,rR]
  ·simp[zx,mkB]
  ·intro b hb;have:b=0∨b=1:=by omega
   rcases this with rfl|rfl<;>simp[kZ,rl]
end Go.Kc
end
section
/- The methods of lower's maker that make a few rules. Condition: the functions' texts are these. -/
namespace Go.Kc
variable {P:Program} {f:Nat}
def yK(P:Program)(f:Nat):Prop:=∀(arg mask act:Int) (l:List Int),l.length<=100000->qb P f [.i .i64 arg,.i .u64 mask,.i .u32 act,.fz l.length (rI .u64 l)] (.fz (qH arg mask act l).length (rT (qH arg mask act l)))
def qkp(P:Program)(f:Nat):Prop:=∀(arg act:Int) (l:List Int),l.length<=100000->qb P f [.i .i64 arg,.i .u32 act,.fz l.length (rI .u64 l)] (.fz (zf arg act l).length (rT (zf arg act l)))
theorem qbO.pure(h:qbO P f):yK P f:=by
 intro arg mask act l hl;rw[show (qH arg mask act l).length=l.length by simp[qH]]
 refine (h arg mask act l hl).pure (by simp[qx,clo]) ?_;refine .own 0 _ 4 true _ _ ?_ (fun h0=>?_) (Frzs.self xf)
 ·simp[xu,Hp.push,shb,H0,Tr.get_set,jz xf]
 ·rw[List.eq_nil_of_length_eq_zero h0];rfl
theorem qbM.pure(h:qbM P f):qkp P f:=by
 intro arg act l hl;rw[show (zf arg act l).length=l.length by simp[zf]]
 refine (h arg act l hl).pure (by simp[qx,clo]) ?_;refine .own 0 _ 4 true _ _ ?_ (fun h0=>?_) (Frzs.self xf)
 ·simp[xu,Hp.push,shb,H0,Tr.get_set,jz xf]
 ·rw[List.eq_nil_of_length_eq_zero h0];rfl
def xr:List UInt8:=[115,99,104,101,100,95,115,101,116,115,99,104,101,100,117,108,101,114]
def rtM(p:Pol)(a:Int):Bool×List GRule×Int:=(p.rt,qN a 327681 (qH 1 4294967295 2147418112 [0,3,5]) [xr],2147418112)
def jh(a b:Nat):IFn:=⟨[.tmp 2],.seq (.r [.m 2 .F]) (.seq (.r [.n 3 0,.q 4 (.buildS 3 [.i .u64 0] [(0,1,(.c (.i .u64 0))),(1,1,(.c (.i .u64 3))),(2,1,(.c (.i .u64 5)))]),.l 5 a [.k 1,(.c (.i .u64 4294967295)),(.c (.i .u32 2147418112)),.t 4],.q 6 (.buildS 1 [.s []] [(0,1,(.c (.s [115,99,104,101,100,95,115,101,116,115,99,104,101,100,117,108,101,114])))]),.l 7 b [.t 3,(.c (.i .u32 327681)),.t 5,.t 6]]) (.seq (.r [.n 8 0,.q 9 (.nilChk (.t 8)),.f 10 0 9,.f 11 11 10,.d 12 11,.n 2 12]) (.ret)))⟩
theorem qhY{g1 g2:Nat}(hc:qt P f (jh g1 g2)=true)(h1:yK P g1)(h2:j8 P g2):zk P f rtM:=by
 intro p a hp hR;refine Upd.mkd hc (by simp[xS,bnd,mkB]) (by simp) ?_;simp only[jh,mkB,mkC,qr,vI,simprocAttr,List.cons_append,List.nil_append];simp only[↓vS,vT,simprocAttr];refine SC.give (vs':=[.i .i64 1,.i .u64 4294967295,.i .u32 2147418112,.fz 3 (rI .u64 [0,3,5])]) [(2,.cells 0 true false [.i .u64 0,.i .u64 3,.i .u64 5])] ?_ ?_ ?_
 ·intro q hq;simp at hq;subst hq;simp[Tr.get_set]
 ·refine .keep _ _ _ (.keep _ _ _ (.keep _ _ _ (.fz _ _ _ _ (.cut 1 rfl (Nat.le_refl _) ?_) .nil)));simp[vw,trP,rI]
 simp only[ze,zw,zC];refine (h1 1 4294967295 2147418112 [0,3,5] (by decide)).sc ?_;generalize hts:qH 1 4294967295 2147418112 [0,3,5]=ts;have hl:ts.length<=100000:=by rw[← hts];decide
 simp only[↓vS,vT,simprocAttr];refine SC.give (vs':=[.ptr 0 0,.i .u32 327681,.fz ts.length (rT ts),.fz 1 (rS [xr])]) [(3,.cells 0 true false [.s xr])] ?_ ?_ ?_
 ·intro q hq;simp at hq;subst hq;simp[Tr.get_set,xr]
 ·refine .keep _ _ _ (.keep _ _ _ (.keep _ _ _ (.fz _ _ _ _ (.cut 1 rfl (Nat.le_refl _) ?_) .nil)));simp[vw,trP,rS,xr]
 simp only[ze,zw,zC];refine (h2 p a 2147418112 327681 ts [xr] [] hl (by simp)).sc (vs:=[.ptr 0 0,.i .u32 327681,.fz ts.length (rT ts),.fz 1 (rS [xr])]) [0,1] (Lent.of (by decide) ?_) ?_
 ·simp[vL,vw,mkB,mkC,qr,qw qi,qd qi,qw qe,qd qe,qw qc,qd qc]
 simp only[vK,simprocAttr,mkB,mkC,qr,List.cons_append,List.nil_append,qd qi,qd qe,qd qc];simp only[↓vS,vT,simprocAttr];intro _;refine⟨[0,1,4],?_⟩;simp[vw,rtM,hts,mkB,mkC,qr,ql,qi,qe,qc,zx,rl];intro b hb;have:b=0∨b=1:=by omega
 rcases this with rfl|rfl<;>simp
end Go.Kc
end
section
/- The methods of lower's maker that make a few rules. Condition: the functions' texts are these. -/
namespace Go.Kc
variable {P:Program} {f:Nat}
def qZ:List UInt8:=[115,111,99,107,101,116]
def qQ:List UInt8:=[117,110,115,104,97,114,101]
def zt:List UInt8:=[99,108,111,110,101]
def qT:List UInt8:=[115,101,116,110,115]
def qY:List UInt8:=[99,108,111,110,101,51]
def zV:List UInt8:=[109,109,97,112]
def qK:List UInt8:=[109,112,114,111,116,101,99,116]
def qq:List UInt8:=[112,107,101,121,95,109,112,114,111,116,101,99,116]
def zj:List UInt8:=[115,104,109,97,116]
def qC:List UInt8:=[112,101,114,115,111,110,97,108,105,116,121]
def peM(p:Pol)(a:Int):Bool×List GRule×Int:=(p.pe,qN a 327681 (qH 0 4294967295 2147418112 [0,4294967295]) [qC],2147418112)
def xL(a b:Nat):IFn:=⟨[.tmp 2],.seq (.r [.m 2 .F]) (.seq (.r [.n 3 0,.q 4 (.buildS 2 [.i .u64 0] [(0,1,(.c (.i .u64 0))),(1,1,(.c (.i .u64 4294967295)))]),.l 5 a [.k 0,(.c (.i .u64 4294967295)),(.c (.i .u32 2147418112)),.t 4],.q 6 (.buildS 1 [.s []] [(0,1,(.c (.s [112,101,114,115,111,110,97,108,105,116,121])))]),.l 7 b [.t 3,(.c (.i .u32 327681)),.t 5,.t 6]]) (.seq (.r [.n 8 0,.q 9 (.nilChk (.t 8)),.f 10 0 9,.f 11 10 10,.d 12 11,.n 2 12]) (.ret)))⟩
theorem qfa{g1 g2:Nat}(hc:qt P f (xL g1 g2)=true)(h1:yK P g1)(h2:j8 P g2):zk P f peM:=by
 intro p a hp hR;refine Upd.mkd hc (by simp[xS,bnd,mkB]) (by simp) ?_;simp only[xL,mkB,mkC,qr,vI,simprocAttr,List.cons_append,List.nil_append];simp only[↓vS,vT,simprocAttr];refine SC.give (vs':=[.i .i64 0,.i .u64 4294967295,.i .u32 2147418112,.fz 2 (rI .u64 [0,4294967295])]) [(2,.cells 0 true false [.i .u64 0,.i .u64 4294967295])] ?_ ?_ ?_
 ·intro q hq;simp at hq;subst hq;simp[Tr.get_set]
 ·refine .keep _ _ _ (.keep _ _ _ (.keep _ _ _ (.fz _ _ _ _ (.cut 1 rfl (Nat.le_refl _) ?_) .nil)));simp[vw,trP,rI]
 simp only[ze,zw,zC];refine (h1 0 4294967295 2147418112 [0,4294967295] (by decide)).sc ?_;generalize hts0:qH 0 4294967295 2147418112 [0,4294967295]=ts0;have hlts0:ts0.length<=100000:=by rw[← hts0];decide
 simp only[↓vS,vT,simprocAttr];refine SC.give (vs':=[.ptr 0 0,.i .u32 327681,.fz ts0.length (rT ts0),.fz 1 (rS [qC])]) [(3,.cells 0 true false [.s qC])] ?_ ?_ ?_
 ·intro q hq;simp at hq;subst hq;simp[Tr.get_set,qC]
 ·refine .keep _ _ _ (.keep _ _ _ (.keep _ _ _ (.fz _ _ _ _ (.cut 1 rfl (Nat.le_refl _) ?_) .nil)));simp[vw,trP,rS,qC]
 simp only[ze,zw,zC];refine (h2 p a 2147418112 327681 ts0 [qC] [] hlts0 (by simp)).sc (vs:=[.ptr 0 0,.i .u32 327681,.fz ts0.length (rT ts0),.fz 1 (rS [qC])]) [0,1] (Lent.of (by decide) ?_) ?_
 ·simp[vL,vw,mkB,mkC,qr,qw qi,qd qi,qw qe,qd qe,qw qc,qd qc]
 simp only[vK,simprocAttr,mkB,mkC,qr,List.cons_append,List.nil_append,qd qi,qd qe,qd qc]
 have hlA:(qN a 327681 ts0 [qC]).length<=1:=by
  have:=xV a 327681 ts0 [qC];simp only[List.length_append,List.length_cons,List.length_nil] at this ⊢;omega
 generalize hA0:qN a 327681 ts0 [qC]=A0 at hlA;simp only[↓vS,vT,simprocAttr];intro _;refine⟨[0,1,4],?_⟩;have e:(peM p a).2.1=A0:=by simp only[peM,← hA0,← hts0]
 rw[e];simp[vw,peM,mkB,mkC,qr,ql,qi,qe,qc,zx,rl];intro b hb;have:b=0∨b=1:=by omega
 rcases this with rfl|rfl<;>simp
def weM(p:Pol)(a:Int):Bool×List GRule×Int:=(p.we,qN a 2147418112 (zf 2 327681 [6]) [zV]++qN a 2147418112 (zf 2 327681 [4]) [qK,qq]++qN a 2147418112 (zf 2 327681 [32768]) [zj],2147418112)
def xF(a b:Nat):IFn:=⟨[.tmp 2],.seq (.r [.m 2 .F]) (.seq (.r [.n 3 0,.q 4 (.buildS 1 [.i .u64 0] [(0,1,(.c (.i .u64 6)))]),.l 5 a [.k 2,(.c (.i .u32 327681)),.t 4],.q 6 (.buildS 1 [.s []] [(0,1,(.c (.s [109,109,97,112])))]),.l 7 b [.t 3,(.c (.i .u32 2147418112)),.t 5,.t 6]]) (.seq (.r [.n 8 0,.q 9 (.buildS 1 [.i .u64 0] [(0,1,(.c (.i .u64 4)))]),.l 10 a [.k 2,(.c (.i .u32 327681)),.t 9],.q 11 (.buildS 2 [.s []] [(0,1,(.c (.s [109,112,114,111,116,101,99,116]))),(1,1,(.c (.s [112,107,101,121,95,109,112,114,111,116,101,99,116])))]),.l 12 b [.t 8,(.c (.i .u32 2147418112)),.t 10,.t 11]]) (.seq (.r [.n 13 0,.q 14 (.buildS 1 [.i .u64 0] [(0,1,(.c (.i .u64 32768)))]),.l 15 a [.k 2,(.c (.i .u32 327681)),.t 14],.q 16 (.buildS 1 [.s []] [(0,1,(.c (.s [115,104,109,97,116])))]),.l 17 b [.t 13,(.c (.i .u32 2147418112)),.t 15,.t 16]]) (.seq (.r [.n 18 0,.q 19 (.nilChk (.t 18)),.f 20 0 19,.f 21 9 20,.d 22 21,.n 2 22]) (.ret)))))⟩
theorem qeg{g1 g2:Nat}(hc:qt P f (xF g1 g2)=true)(h1:qkp P g1)(h2:j8 P g2):zk P f weM:=by
 intro p a hp hR;refine Upd.mkd hc (by simp[xS,bnd,mkB]) (by simp) ?_;simp only[xF,mkB,mkC,qr,vI,simprocAttr,List.cons_append,List.nil_append];simp only[↓vS,vT,simprocAttr];refine SC.give (vs':=[.i .i64 2,.i .u32 327681,.fz 1 (rI .u64 [6])]) [(2,.cells 0 true false [.i .u64 6])] ?_ ?_ ?_
 ·intro q hq;simp at hq;subst hq;simp[Tr.get_set]
 ·refine .keep _ _ _ (.keep _ _ _ (.fz _ _ _ _ (.cut 1 rfl (Nat.le_refl _) ?_) .nil));simp[vw,trP,rI]
 simp only[ze,zw,zC];refine (h1 2 327681 [6] (by decide)).sc ?_;generalize hts0:zf 2 327681 [6]=ts0;have hlts0:ts0.length<=100000:=by rw[← hts0];decide
 simp only[↓vS,vT,simprocAttr];refine SC.give (vs':=[.ptr 0 0,.i .u32 2147418112,.fz ts0.length (rT ts0),.fz 1 (rS [zV])]) [(3,.cells 0 true false [.s zV])] ?_ ?_ ?_
 ·intro q hq;simp at hq;subst hq;simp[Tr.get_set,zV]
 ·refine .keep _ _ _ (.keep _ _ _ (.keep _ _ _ (.fz _ _ _ _ (.cut 1 rfl (Nat.le_refl _) ?_) .nil)));simp[vw,trP,rS,zV]
 simp only[ze,zw,zC];refine (h2 p a 2147418112 2147418112 ts0 [zV] [] hlts0 (by simp)).sc (vs:=[.ptr 0 0,.i .u32 2147418112,.fz ts0.length (rT ts0),.fz 1 (rS [zV])]) [0,1] (Lent.of (by decide) ?_) ?_
 ·simp[vL,vw,mkB,mkC,qr,qw qi,qd qi,qw qe,qd qe,qw qc,qd qc]
 simp only[vK,simprocAttr,mkB,mkC,qr,List.cons_append,List.nil_append,qd qi,qd qe,qd qc]
 have hlA:(qN a 2147418112 ts0 [zV]).length<=1:=by
  have:=xV a 2147418112 ts0 [zV];simp only[List.length_append,List.length_cons,List.length_nil] at this ⊢;omega
 generalize hA0:qN a 2147418112 ts0 [zV]=A0 at hlA;simp only[↓vS,vT,simprocAttr];refine SC.give (vs':=[.i .i64 2,.i .u32 327681,.fz 1 (rI .u64 [4])]) [(5,.cells 0 true false [.i .u64 4])] ?_ ?_ ?_
 ·intro q hq;simp at hq;subst hq;simp[Tr.get_set]
 ·refine .keep _ _ _ (.keep _ _ _ (.fz _ _ _ _ (.cut 1 rfl (Nat.le_refl _) ?_) .nil));simp[vw,trP,rI]
 simp only[ze,zw,zC];refine (h1 2 327681 [4] (by decide)).sc ?_;generalize hts1:zf 2 327681 [4]=ts1;have hlts1:ts1.length<=100000:=by rw[← hts1];decide
 simp only[↓vS,vT,simprocAttr];refine SC.give (vs':=[.ptr 0 0,.i .u32 2147418112,.fz ts1.length (rT ts1),.fz 2 (rS [qK,qq])]) [(6,.cells 0 true false [.s qK,.s qq])] ?_ ?_ ?_
 ·intro q hq;simp at hq;subst hq;simp[Tr.get_set,qK,qq]
 ·refine .keep _ _ _ (.keep _ _ _ (.keep _ _ _ (.fz _ _ _ _ (.cut 1 rfl (Nat.le_refl _) ?_) .nil)));simp[vw,trP,rS,qK,qq]
 simp only[ze,zw,zC];refine (h2 p a 2147418112 2147418112 ts1 [qK,qq] A0 hlts1 (by simp;omega)).sc (vs:=[.ptr 0 0,.i .u32 2147418112,.fz ts1.length (rT ts1),.fz 2 (rS [qK,qq])]) [0,4] (Lent.of (by decide) ?_) ?_
 ·simp[vL,vw,mkB,mkC,qr,qw qi,qd qi,qw qe,qd qe,qw qc,qd qc]
 simp only[vK,simprocAttr,mkB,mkC,qr,List.cons_append,List.nil_append,qd qi,qd qe,qd qc]
 have hlA:(A0++qN a 2147418112 ts1 [qK,qq]).length<=3:=by
  have:=xV a 2147418112 ts1 [qK,qq];simp only[List.length_append,List.length_cons,List.length_nil] at this ⊢;omega
 generalize hA1:A0++qN a 2147418112 ts1 [qK,qq]=A1 at hlA;simp only[↓vS,vT,simprocAttr];refine SC.give (vs':=[.i .i64 2,.i .u32 327681,.fz 1 (rI .u64 [32768])]) [(8,.cells 0 true false [.i .u64 32768])] ?_ ?_ ?_
 ·intro q hq;simp at hq;subst hq;simp[Tr.get_set]
 ·refine .keep _ _ _ (.keep _ _ _ (.fz _ _ _ _ (.cut 1 rfl (Nat.le_refl _) ?_) .nil));simp[vw,trP,rI]
 simp only[ze,zw,zC];refine (h1 2 327681 [32768] (by decide)).sc ?_;generalize hts2:zf 2 327681 [32768]=ts2;have hlts2:ts2.length<=100000:=by rw[← hts2];decide
 simp only[↓vS,vT,simprocAttr];refine SC.give (vs':=[.ptr 0 0,.i .u32 2147418112,.fz ts2.length (rT ts2),.fz 1 (rS [zj])]) [(9,.cells 0 true false [.s zj])] ?_ ?_ ?_
 ·intro q hq;simp at hq;subst hq;simp[Tr.get_set,zj]
 ·refine .keep _ _ _ (.keep _ _ _ (.keep _ _ _ (.fz _ _ _ _ (.cut 1 rfl (Nat.le_refl _) ?_) .nil)));simp[vw,trP,rS,zj]
 simp only[ze,zw,zC];refine (h2 p a 2147418112 2147418112 ts2 [zj] A1 hlts2 (by simp;omega)).sc (vs:=[.ptr 0 0,.i .u32 2147418112,.fz ts2.length (rT ts2),.fz 1 (rS [zj])]) [0,7] (Lent.of (by decide) ?_) ?_
 ·simp[vL,vw,mkB,mkC,qr,qw qi,qd qi,qw qe,qd qe,qw qc,qd qc]
 simp only[vK,simprocAttr,mkB,mkC,qr,List.cons_append,List.nil_append,qd qi,qd qe,qd qc]
 have hlA:(A1++qN a 2147418112 ts2 [zj]).length<=4:=by
  have:=xV a 2147418112 ts2 [zj];simp only[List.length_append,List.length_cons,List.length_nil] at this ⊢;omega
 generalize hA2:A1++qN a 2147418112 ts2 [zj]=A2 at hlA;simp only[↓vS,vT,simprocAttr];intro _;refine⟨[0,1,10],?_⟩;have e:(weM p a).2.1=A2:=by simp only[weM,← hA2,← hA1,← hA0,← hts0,← hts1,← hts2]
 rw[e];simp[vw,weM,mkB,mkC,qr,ql,qi,qe,qc,zx,rl];intro b hb;have:b=0∨b=1:=by omega
 rcases this with rfl|rfl<;>simp
end Go.Kc
end
section
/- The namespaces method of lower's maker. Condition: the functions' texts are these. -/
namespace Go.Kc
variable {P:Program} {f:Nat}
def nsM(p:Pol)(a:Int):Bool×List GRule×Int:=(decide (p.spaces≠0),qN a 2147418112 (zf 0 327681 (zW p.spaces)) [qQ,zt]++qN a 2147418112 (zf 1 327681 (zW p.spaces)++qH 1 4294967295 327681 [0]) [qT]++qN a 327718 [] [qY],2147418112)
def xW(a b c d:Nat):IFn:=⟨[.tmp 2],.seq (.r [.m 2 .F]) (.seq (.r [.n 4 0,.q 5 (.nilChk (.t 4)),.f 6 0 5,.f 7 8 6,.d 8 7,.l 9 a [.t 8],.n 3 9]) (.seq (.r [.n 10 0,.n 11 3,.l 12 b [.k 0,(.c (.i .u32 327681)),.t 11],.q 13 (.buildS 2 [.s []] [(0,1,(.c (.s [117,110,115,104,97,114,101]))),(1,1,(.c (.s [99,108,111,110,101])))]),.l 14 c [.t 10,(.c (.i .u32 2147418112)),.t 12,.t 13]]) (.seq (.r [.n 15 0,.n 16 3,.l 17 b [.k 1,(.c (.i .u32 327681)),.t 16],.q 18 (.buildS 1 [.i .u64 0] [(0,1,(.c (.i .u64 0)))]),.l 19 d [.k 1,(.c (.i .u64 4294967295)),(.c (.i .u32 327681)),.t 18],.q 20 (.app 4 32 true (.t 17) (.t 19)),.q 21 (.buildS 1 [.s []] [(0,1,(.c (.s [115,101,116,110,115])))]),.l 22 c [.t 15,(.c (.i .u32 2147418112)),.t 20,.t 21]]) (.seq (.r [.n 23 0,.q 24 (.buildS 1 [.s []] [(0,1,(.c (.s [99,108,111,110,101,51])))]),.l 25 c [.t 23,(.c (.i .u32 327718)),.N,.t 24]]) (.seq (.r [.n 26 0,.q 27 (.nilChk (.t 26)),.f 28 0 27,.f 29 8 28,.d 30 29,.q 31 (.bin .neq (.t 30) (.c (.i .u64 0))),.n 2 31]) (.ret))))))⟩
theorem qfz{g0 g1 g2 g3:Nat}(hc:qt P f (xW g0 g1 g2 g3)=true)(h0:∀s,qb P g0 [.i .u64 s] (.fz (zW s).length (rI .u64 (zW s))))(hb:qbM P g1)(h1:yK P g3)(h2:j8 P g2):zk P f nsM:=by
 intro p a hp hR;refine Upd.mkd hc (by simp[xS,bnd,mkB]) (by simp) ?_;simp only[xW,mkB,mkC,qr,vI,simprocAttr,List.cons_append,List.nil_append];simp only[↓vS,vT,simprocAttr];refine (h0 p.spaces).sc ?_;have hfl:(zW p.spaces).length<=8:=Nat.le_trans (List.length_filter_le _ _) (by decide);generalize hF:zW p.spaces=F at hfl;simp only[↓vS,vT,simprocAttr];refine (hb.pure 0 327681 F (by omega)).sc ?_;have hlts0:(zf 0 327681 F).length<=100000:=by simp[zf];omega
 generalize hts0:zf 0 327681 F=ts0 at hlts0;simp only[↓vS,vT,simprocAttr];refine SC.give (vs':=[.ptr 0 0,.i .u32 2147418112,.fz ts0.length (rT ts0),.fz 2 (rS [qQ,zt])]) [(2,.cells 0 true false [.s qQ,.s zt])] ?_ ?_ ?_
 ·intro q hq;simp at hq;subst hq;simp[Tr.get_set,qQ,zt]
 ·refine .keep _ _ _ (.keep _ _ _ (.keep _ _ _ (.fz _ _ _ _ (.cut 1 rfl (Nat.le_refl _) ?_) .nil)));simp[vw,trP,rS,qQ,zt]
 simp only[ze,zw,zC];refine (h2 p a 2147418112 2147418112 ts0 [qQ,zt] [] hlts0 (by simp)).sc (vs:=[.ptr 0 0,.i .u32 2147418112,.fz ts0.length (rT ts0),.fz 2 (rS [qQ,zt])]) [0,1] (Lent.of (by decide) ?_) ?_
 ·simp[vL,vw,mkB,mkC,qr,qw qi,qd qi,qw qe,qd qe,qw qc,qd qc]
 simp only[vK,simprocAttr,mkB,mkC,qr,List.cons_append,List.nil_append,qd qi,qd qe,qd qc]
 have hlA:(qN a 2147418112 ts0 [qQ,zt]).length<=2:=by
  have:=xV a 2147418112 ts0 [qQ,zt];simp only[List.length_append,List.length_cons,List.length_nil] at this ⊢;omega
 generalize hA0:qN a 2147418112 ts0 [qQ,zt]=A0 at hlA;simp only[↓vS,vT,simprocAttr];refine (hb 1 327681 F (by omega)).sc ?_;simp only[vJ,simprocAttr,jz xf];have hlb:(zf 1 327681 F).length=F.length:=by simp[zf]
 have hlbT:(rT (zf 1 327681 F)).length=F.length*4:=by rw[QP,hlb]
 simp only[↓vS,vT,simprocAttr];refine SC.give (vs':=[.i .i64 1,.i .u64 4294967295,.i .u32 327681,.fz 1 (rI .u64 [0])]) [(5,.cells 0 true false [.i .u64 0])] ?_ ?_ ?_
 ·intro q hq;simp at hq;subst hq;simp[Tr.get_set]
 ·refine .keep _ _ _ (.keep _ _ _ (.keep _ _ _ (.fz _ _ _ _ (.cut 1 rfl (Nat.le_refl _) ?_) .nil)));simp[vw,trP,rI]
 simp only[ze,zw,zC];refine (h1 1 4294967295 327681 [0] (by decide)).sc ?_;generalize hts1:qH 1 4294967295 327681 [0]=ts1;have hlts1:ts1.length<=100000:=by rw[← hts1];decide
 simp only[↓vS,vT,simprocAttr];have hl1:ts1.length=1:=by rw[← hts1];rfl
 have hl1T:(rT ts1).length=4:=by rw[QP,hl1]
 obtain⟨ts2,hts2⟩:∃x,zf 1 327681 F++ts1=x:=⟨_,rfl⟩;have hl2:F.length+1=ts2.length:=by rw[← hts2,List.length_append,hlb,hl1]
 have hr1:ts2.length<=qg:=by simp only[qg];omega
 have hr2:ts2.length*32<=qg:=by simp only[qg];omega
 have hlts2:ts2.length<=100000:=by omega
 have htk:(rT (zf 1 327681 F)).take (F.length*4)=rT (zf 1 327681 F):=List.take_of_length_le (by omega);have htk1:(rT ts1).take 4=rT ts1:=List.take_of_length_le (by omega);have hok:qA (rT ts1)=true:=qkM;simp (decide:=true) only [↓vS,vT,simprocAttr,hl1,hl1T,hlbT,htk,htk1,hl2,hr1,hr2,qdI,hts2,hok];refine SC.give (vs':=[.ptr 0 0,.i .u32 2147418112,.fz ts2.length (rT ts2),.fz 1 (rS [qT])]) [(6,.cells 4 true true (rT ts2)),(7,.cells 0 true false [.s qT])] ?_ ?_ ?_
 ·intro q hq;simp at hq;rcases hq with rfl|rfl<;>simp[Tr.get_set,qT]
 ·refine .keep _ _ _ (.keep _ _ _ (.fz _ _ _ _ (.own 6 _ 4 true (rT ts2) _ ?_ (fun h0=>?_) (Frzs.self xf)) (.fz _ _ _ _ (.cut 1 rfl (Nat.le_refl _) ?_) .nil)))
  ·simp[trP,Tr.get_set]
  ·rw[List.eq_nil_of_length_eq_zero h0];rfl
  simp[vw,trP,rS,qT]
 simp only[ze,zw,zC];refine (h2 p a 2147418112 2147418112 ts2 [qT] A0 hlts2 (by simp;omega)).sc (vs:=[.ptr 0 0,.i .u32 2147418112,.fz ts2.length (rT ts2),.fz 1 (rS [qT])]) [0,3] (Lent.of (by decide) ?_) ?_
 ·simp[vL,vw,mkB,mkC,qr,qw qi,qd qi,qw qe,qd qe,qw qc,qd qc]
 simp only[vK,simprocAttr,mkB,mkC,qr,List.cons_append,List.nil_append,qd qi,qd qe,qd qc]
 have hlA:(A0++qN a 2147418112 ts2 [qT]).length<=3:=by
  have:=xV a 2147418112 ts2 [qT];simp only[List.length_append,List.length_cons,List.length_nil] at this ⊢;omega
 generalize hA1:A0++qN a 2147418112 ts2 [qT]=A1 at hlA;simp only[↓vS,vT,simprocAttr];refine SC.give (vs':=[.ptr 0 0,.i .u32 327718,.fz 0 (rT []),.fz 1 (rS [qY])]) [(9,.cells 0 true false [.s qY])] ?_ ?_ ?_
 ·intro q hq;simp at hq;subst hq;simp[Tr.get_set,qY]
 ·refine .keep _ _ _ (.keep _ _ _ (.fz _ _ _ _ .nilz (.fz _ _ _ _ (.cut 1 rfl (Nat.le_refl _) ?_) .nil)));simp[vw,trP,rS,qY]
 simp only[ze,zw,zC];refine (h2 p a 2147418112 327718 [] [qY] A1 (by simp) (by simp;omega)).sc (vs:=[.ptr 0 0,.i .u32 327718,.fz 0 (rT []),.fz 1 (rS [qY])]) [0,8] (Lent.of (by decide) ?_) ?_
 ·simp[vL,vw,mkB,mkC,qr,qw qi,qd qi,qw qe,qd qe,qw qc,qd qc]
 simp only[vK,simprocAttr,mkB,mkC,qr,List.cons_append,List.nil_append,qd qi,qd qe,qd qc]
 have hlA:(A1++qN a 327718 [] [qY]).length<=4:=by
  have:=xV a 327718 [] [qY];simp only[List.length_append,List.length_cons,List.length_nil] at this ⊢;omega
 generalize hA2:A1++qN a 327718 [] [qY]=A2 at hlA;simp only[↓vS,vT,simprocAttr];intro _;refine⟨[0,1,10],?_⟩;have e:(nsM p a).2.1=A2:=by simp only[nsM,← hA2,← hA1,← hA0,← hts2,← hts0,← hts1,← hF]
 rw[e];simp[vw,nsM,mkB,mkC,qr,ql,qi,qe,qc,zx,rl];intro b hb;have:b=0∨b=1:=by omega
 rcases this with rfl|rfl<;>simp
end Go.Kc
end
section
/- The families method of lower's maker. Condition: the functions' texts are these. -/
namespace Go.Kc
variable {P:Program} {f:Nat}
def fmM(p:Pol)(a:Int):Bool×List GRule×Int :=
 (qS p.fmode p.fams.length true false,qN a (if p.fmode=2 then 2147418112 else 327777) (qH 0 4294967295 (if p.fmode=2 then 327777 else 2147418112) p.fams) [qZ],2147418112)
def zT(a b c:Nat):ICode:=.seq (.r [.n 32 0,.n 33 4,.n 34 3,.n 35 5,.l 36 a [.k 0,(.c (.i .u64 4294967295)),.t 34,.t 35],.q 37 (.buildS 1 [.s []] [(0,1,(.c (.s [115,111,99,107,101,116])))]),.l 38 b [.t 32,.t 33,.t 36,.t 37]]) (.seq (.reg true [.n 39 0,.q 40 (.nilChk (.t 39)),.f 41 0 40,.f 42 7 41,.d 43 42,.n 44 0,.q 45 (.nilChk (.t 44)),.f 46 0 45,.f 47 6 46,.d 48 47,.e 49 48,.l 50 c [.t 43,.t 49,.T,.F],.n 2 50]) (.ret))
def zS(a b c:Nat):ICode:=.seq (.r [.m 5 .N]) (.seq (.seq (.r [.n 16 0,.q 17 (.nilChk (.t 16)),.f 18 0 17,.f 19 6 18,.d 20 19,.e 21 20,.m 22 (.k 0)]) (.blk 0 (.loop (.seq (.r [.s 23 22 21]) (.seq (.cond (.t 23) (.skip) (.exit 0)) (.seq (.blk 1 (.seq (.r [.i 24 1 20 22,.d 25 24,.n 7 25]) (.r [.n 26 5,.n 27 7,.q 28 (.cvInt .u64 (.t 27)),.q 29 (.buildS 1 [.i .u64 0] [(0,1,(.t 28))]),.q 30 (.app 1 8 true (.t 26) (.t 29)),.n 5 30]))) (.r [.a 31 22 1,.n 22 31]))))))) (.cut (zT a b c)))
def jg(a b c:Nat):IFn:=⟨[.tmp 2],.seq (.r [.m 2 .F]) (.seq (.r [.m 3 (.c (.i .u32 2147418112)),.m 4 (.c (.i .u32 327777))]) (.seq (.seq (.r [.n 8 0,.q 9 (.nilChk (.t 8)),.f 10 0 9,.f 11 7 10,.d 12 11,.q 13 (.bin .eql (.t 12) (.c (.i .u8 2)))]) (.cond (.t 13) (.r [.n 14 4,.n 15 3,.n 3 14,.n 4 15]) (.skip))) (.cut (zS a b c))))⟩
theorem qjq{g1 g2 g3:Nat}(h1:yK P g1)(h2:j8 P g2)(h3:∀mode n al dn,qb P g3 [.i .u8 mode,.i .i64 (n:Nat),.b al,.b dn] (.b (qS mode n al dn)))
  (p:Pol) (a nm ot:Int) (hp:PolOk p) {t':Tr AV} {h':Hp} (hw:Wk 2 t' h' (mkT [(0,.ptr 0 0),(2,.b false),(3,.i .u32 nm),(4,.i .u32 ot),(5,.own 2 p.fams.length)]) (mkH 0 [mkB p a 2147418112 1 0,.cells 3 true true (rR []),.cells 1 true true (rI .u64 p.fams)])) :
  S P 2 (zT g1 g2 g3) (jJ [.tmp 2] (qdg 2 (.b (qS p.fmode p.fams.length true false)) [mkB p a 2147418112 2 (qN a ot (qH 0 4294967295 nm p.fams) [qZ]).length,.dead,.cells 3 true true (rR (qN a ot (qH 0 4294967295 nm p.fams) [qZ]))])) t' h':=by
 have hl:=hp.f;refine S.weak hw (qP ?_);simp only[zT,mkB,mkC,qr,List.cons_append,List.nil_append,vI,simprocAttr];simp only[↓vS,vT,simprocAttr];refine SC.give (vs':=[.i .i64 0,.i .u64 4294967295,.i .u32 nm,.fz p.fams.length (rI .u64 p.fams)]) [(2,.cells 1 true true (rI .u64 p.fams))] ?_ ?_ ?_
 ·intro q hq;simp at hq;subst hq;simp[Tr.get_set]
 ·refine .keep _ _ _ (.keep _ _ _ (.keep _ _ _ (.fz _ _ _ _ (.own 2 _ 1 true (rI .u64 p.fams) _ ?_ (fun h0=>?_) (Frzs.self qc)) .nil)))
  ·simp[trP,Tr.get_set]
  ·rw[List.eq_nil_of_length_eq_zero h0];rfl
 simp only[ze,zw,zC];refine (h1 0 4294967295 nm p.fams (by omega)).sc ?_;have hlts:(qH 0 4294967295 nm p.fams).length<=100000:=by simp[qH];omega
 generalize hts:qH 0 4294967295 nm p.fams=ts at hlts;simp only[↓vS,vT,simprocAttr];refine SC.give (vs':=[.ptr 0 0,.i .u32 ot,.fz ts.length (rT ts),.fz 1 (rS [qZ])]) [(3,.cells 0 true false [.s qZ])] ?_ ?_ ?_
 ·intro q hq;simp at hq;subst hq;simp[Tr.get_set,qZ]
 ·refine .keep _ _ _ (.keep _ _ _ (.keep _ _ _ (.fz _ _ _ _ (.cut 1 rfl (Nat.le_refl _) ?_) .nil)));simp[vw,trP,rS,qZ]
 simp only[ze,zw,zC];refine (h2 p a 2147418112 ot ts [qZ] [] hlts (by simp)).sc (vs:=[.ptr 0 0,.i .u32 ot,.fz ts.length (rT ts),.fz 1 (rS [qZ])]) [0,1] (Lent.of (by decide) ?_) ?_
 ·simp[vL,vw,mkB,mkC,qr,qw qi,qd qi,qw qe,qd qe,qw qc,qd qc]
 simp only[vK,simprocAttr,mkB,mkC,qr,List.cons_append,List.nil_append,qd qi,qd qe,qd qc];generalize hA:qN a ot ts [qZ]=A;simp only[↓vS,vT,simprocAttr];refine kC ?_;simp only[↓vS,vT,simprocAttr];refine (h3 p.fmode p.fams.length true false).pc ?_;simp only[↓vS,vT,simprocAttr];intro _;refine⟨[0,1,4],?_⟩;simp[vw,mkB,mkC,qr,ql,qi,qe,qc,zx,rl];intro b hb;have:b=0∨b=1:=by omega
 rcases this with rfl|rfl<;>simp
theorem qeb{g1 g2 g3:Nat}(h1:yK P g1)(h2:j8 P g2)(h3:∀mode n al dn,qb P g3 [.i .u8 mode,.i .i64 (n:Nat),.b al,.b dn] (.b (qS mode n al dn)))
  (p:Pol) (a nm ot:Int) (hp:PolOk p) (hR:PolR p) {t':Tr AV} {h':Hp} (hw:Wk 2 t' h' (mkT [(0,.ptr 0 0),(2,.b false),(3,.i .u32 nm),(4,.i .u32 ot)]) (mkH 0 [mkB p a 2147418112 1 0,.cells 3 true true (rR [])])) :
  S P 2 (zS g1 g2 g3) (jJ [.tmp 2] (qdg 2 (.b (qS p.fmode p.fams.length true false)) [mkB p a 2147418112 2 (qN a ot (qH 0 4294967295 nm p.fams) [qZ]).length,.dead,.cells 3 true true (rR (qN a ot (qH 0 4294967295 nm p.fams) [qZ]))])) t' h':=by
 have hl:=hp.f;refine S.weak hw (qP ?_);simp only[zS,mkB,mkC,qr,List.cons_append,List.nil_append,vI,simprocAttr];simp only[↓vS,vT,simprocAttr]
 refine SL.loopd (α:=Nat) (fun j=>[(0,.ptr 0 0),(2,.b false),(3,.i .u32 nm),(4,.i .u32 ot),(5,.own 2 j),(20,.fz p.fams.length (rI .u32 p.fams)),(21,.i .i64 p.fams.length),(22,.i .i64 j)])
  (fun j=>[mkB p a 2147418112 1 0,.cells 3 true true (rR []),.cells 1 true true (rI .u64 (p.fams.take j))])
  (fun j=>j<=p.fams.length) (fun j=>p.fams.length-j) 0 [0,1,99] ?_ ?_ ?_ rfl (by simp) ?_ ?_ ?_
 ·simp[vw,qc]
 ·simp[vw,mkB,mkC,qr,ql,qi,qe,qc]
 ·simp[zx,mkB]
 ·intro b hb;have:b=0∨b=1:=by omega
  rcases this with rfl|rfl<;>simp[kZ,rl]
 ·exact Nat.zero_le _
 rintro j hj G ih;simp only[vI,simprocAttr,mkB,mkC,qr,List.cons_append,List.nil_append]
 by_cases hlt:j<p.fams.length
 ·have hx:p.fams[j]?=some p.fams[j]:=List.getElem?_eq_getElem hlt;have hw:IntKind.wrap .i64 ((j:Int)+1)=((j+1:Nat):Int):=by rw[zg (by omega) (by omega)];omega
  have hb:=hR.fams p.fams[j] (List.getElem_mem hlt);have hln:(rI .u64 (p.fams.take j)).length=j:=by rw[qhx];simp;omega
  have htk:(rI .u64 (p.fams.take j)).take j=rI .u64 (p.fams.take j):=List.take_of_length_le (by omega)
  have hap:rI .u64 (p.fams.take j)++[AV.i .u64 p.fams[j]]=rI .u64 (p.fams.take (j+1)):=by
   rw[List.take_add_one,hx];simp only[Option.toList_some,← qhw];rfl
  have hcv:IntKind.wrap .u64 p.fams[j]=p.fams[j]:=qak (by omega) (by omega);have hr1:j+1<=qg:=by simp only[qg];omega
  have hr2:(j+1)*8<=qg:=by simp only[qg];omega
  simp (decide:=true) only [↓vS,vT,simprocAttr,hlt,Nat.mul_one,wc,hx,Option.map_some,hcv,hw,hr1,hr2,hln,htk,hap];refine ih (j+1) hlt (by omega) _ _ (Wk.mkd _ _ [0,1,4] ?_ ?_ ?_ rfl (by simp) ?_)
  ·simp[vw,qc]
  ·simp[vw,mkB,mkC,qr,ql,qi,qe,qc]
  ·simp[zx,mkB]
  ·intro b hb;have:b=0∨b=1:=by omega
   rcases this with rfl|rfl<;>simp[kZ,rl]
 ·have hj':j=p.fams.length:=by omega
  subst hj';simp only[↓vS,vT,simprocAttr,hlt];refine qjq h1 h2 h3 p a nm ot hp (Wk.mkd _ _ [0,1,2] ?_ ?_ ?_ rfl (by simp) ?_)
  ·simp[vw]
  ·simp[vw,mkB,mkC,qr,ql,qi,qe,qc]
  ·simp[zx,mkB]
  ·intro b hb;have:b=0∨b=1:=by omega
   rcases this with rfl|rfl<;>simp[kZ,rl]
theorem qhX{g1 g2 g3:Nat}(hc:qt P f (jg g1 g2 g3)=true)(h1:yK P g1)(h2:j8 P g2)(h3:∀mode n al dn,qb P g3 [.i .u8 mode,.i .i64 (n:Nat),.b al,.b dn] (.b (qS mode n al dn))):zk P f fmM:=by
 intro p a hp hR;refine Upd.mkd hc (by simp[xS,bnd,mkB]) (by simp) ?_;simp only[jg,mkB,mkC,qr,vI,simprocAttr,List.cons_append,List.nil_append]
 by_cases m:p.fmode=2
 ·simp only[↓vS,vT,simprocAttr,m];have e:fmM p a=(qS p.fmode p.fams.length true false,qN a 2147418112 (qH 0 4294967295 327777 p.fams) [qZ],2147418112):=by simp[fmM,m]
  rw[e];refine qeb h1 h2 h3 p a 327777 2147418112 hp hR (Wk.mkd _ _ [0,1] ?_ ?_ ?_ rfl (by simp) ?_)
  ·simp[vw]
  ·simp[vw,mkB,mkC,qr,ql,qi,qe,qc,m]
  ·simp[zx,mkB]
  ·intro b hb;have:b=0∨b=1:=by omega
   rcases this with rfl|rfl<;>simp[kZ,rl]
 ·simp only[↓vS,vT,simprocAttr,m];have e:fmM p a=(qS p.fmode p.fams.length true false,qN a 327777 (qH 0 4294967295 2147418112 p.fams) [qZ],2147418112):=by simp[fmM,m]
  rw[e];refine qeb h1 h2 h3 p a 2147418112 327777 hp hR (Wk.mkd _ _ [0,1] ?_ ?_ ?_ rfl (by simp) ?_)
  ·simp[vw]
  ·simp[vw,mkB,mkC,qr,ql,qi,qe,qc]
  ·simp[zx,mkB]
  ·intro b hb;have:b=0∨b=1:=by omega
   rcases this with rfl|rfl<;>simp[kZ,rl]
end Go.Kc
end
