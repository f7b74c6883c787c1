/- Part 9 of the abstract machine and of the functions' walks. Conditions: with each theorem. -/
import Derived.Test.YtdmjpfekglajoaaGreatK8
set_option linter.unusedSimpArgs false
set_option linter.unusedVariables false
set_option linter.unnecessarySimpa false
section
/- What the document makes of a list by a value. Condition: the functions' texts are these. -/
namespace Go.Kc
variable {P:Program} {f:Nat}
def z5 (f_vestibuleref16_May f_vestibuleref15_Words f_vestibuleref15_Turned f_vestibuleref15_Read f_vestibuleref11_Expand f_vestibuleref09_Known f_vestibuleref16_Put f_vestibuleref16_take:Nat):ICode:=.reg false [⟨(some 44),.op (.mov (.t 12)),none⟩,
    ⟨(some 45),.op (.bin .add (.t 44) (.c (.i .i64 1))),none⟩,
    ⟨(some 12),.op (.mov (.t 45)),none⟩]
def zI (f_vestibuleref16_May f_vestibuleref15_Words f_vestibuleref15_Turned f_vestibuleref15_Read f_vestibuleref11_Expand f_vestibuleref09_Known f_vestibuleref16_Put f_vestibuleref16_take:Nat):ICode:=.seq (.reg false [⟨(some 17),.op (.mov (.c (.i .i64 0))),none⟩])
  (.blk 2 (.loop (.seq (.seq (.reg false [⟨(some 114),.op (.mov (.t 17)),none⟩,
    ⟨(some 115),.op (.mov (.t 16)),none⟩,
    ⟨(some 116),.op (.len false (.t 115)),none⟩,
    ⟨(some 117),.op (.bin .lss (.t 114) (.t 116)),none⟩])
  (.cond (.t 117) (.skip) (.exit 2)))
  (.seq (.blk 3 (.seq (.reg false [⟨(some 120),.op (.fAddr 0 (.t 3)),none⟩,
    ⟨(some 121),.op (.load1 (.t 120)),none⟩,
    ⟨(some 122),.op (.bin .eql (.t 121) (.c (.i .u8 1))),none⟩,
    ⟨(some 123),.op (.mov (.t 122)),none⟩,
    ⟨(some 124),.op (.mov (.t 9)),(some (123,true))⟩,
    ⟨(some 125),.op (.un .not (.t 124)),(some (123,true))⟩,
    ⟨(some 126),.op (.mov (.t 125)),(some (123,true))⟩,
    ⟨(some 127),.op (.fAddr 2 (.t 14)),(some (126,false))⟩,
    ⟨(some 128),.op (.load1 (.t 127)),(some (126,false))⟩,
    ⟨(some 129),.op (.pick (.t 126) (.c (.b true)) (.t 128)),(some (123,true))⟩,
    ⟨(some 130),.op (.pick (.t 123) (.t 129) (.c (.b false))),none⟩,
    ⟨(some 131),.op (.mov (.t 130)),none⟩,
    ⟨(some 132),.op (.fAddr 0 (.t 3)),(some (131,false))⟩,
    ⟨(some 133),.op (.load1 (.t 132)),(some (131,false))⟩,
    ⟨(some 134),.op (.bin .eql (.t 133) (.c (.i .u8 2))),(some (131,false))⟩,
    ⟨(some 135),.op (.mov (.t 134)),(some (131,false))⟩,
    ⟨(some 136),.op (.mov (.t 9)),(some (135,true))⟩,
    ⟨(some 137),.op (.pick (.t 135) (.t 136) (.c (.b false))),(some (131,false))⟩,
    ⟨(some 138),.op (.pick (.t 131) (.c (.b true)) (.t 137)),none⟩])
  (.cond (.t 138) (.reg true [⟨(some 139),.op (.loadN 2 (.t 3)),none⟩,
    ⟨(some 140),.op (.mov (.t 16)),none⟩,
    ⟨(some 141),.op (.mov (.t 17)),none⟩,
    ⟨(some 142),.op (.iAddrS 1 (.t 140) (.t 141)),none⟩,
    ⟨(some 143),.op (.load1 (.t 142)),none⟩,
    ⟨(some 144),.op (.fAddr 1 (.t 14)),none⟩,
    ⟨(some 145),.op (.load1 (.t 144)),none⟩,
    ⟨(some 146),.callF f_vestibuleref16_Put [(.t 139),(.t 143),(.t 145)],none⟩,
    ⟨none,.op (.store 2 (.t 3) (.t 146)),none⟩]) (.reg true [⟨(some 147),.op (.loadN 2 (.t 3)),none⟩,
    ⟨(some 148),.op (.mov (.t 16)),none⟩,
    ⟨(some 149),.op (.mov (.t 17)),none⟩,
    ⟨(some 150),.op (.iAddrS 1 (.t 148) (.t 149)),none⟩,
    ⟨(some 151),.op (.load1 (.t 150)),none⟩,
    ⟨(some 152),.callF f_vestibuleref16_take [(.t 147),(.t 151)],none⟩,
    ⟨none,.op (.store 2 (.t 3) (.t 152)),none⟩]))))
  (.reg false [⟨(some 118),.op (.mov (.t 17)),none⟩,
    ⟨(some 119),.op (.bin .add (.t 118) (.c (.i .i64 1))),none⟩,
    ⟨(some 17),.op (.mov (.t 119)),none⟩])))))
def z9 (f_vestibuleref16_May f_vestibuleref15_Words f_vestibuleref15_Turned f_vestibuleref15_Read f_vestibuleref11_Expand f_vestibuleref09_Known f_vestibuleref16_Put f_vestibuleref16_take:Nat):ICode:=.seq (.seq (.reg false [⟨(some 97),.op (.fAddr 2 (.t 14)),none⟩,
    ⟨(some 98),.op (.load1 (.t 97)),none⟩,
    ⟨(some 99),.op (.mov (.t 98)),none⟩,
    ⟨(some 100),.op (.mov (.t 2)),(some (99,true))⟩,
    ⟨(some 101),.op (.un .not (.t 100)),(some (99,true))⟩,
    ⟨(some 102),.op (.mov (.t 101)),(some (99,true))⟩,
    ⟨(some 103),.op (.mov (.t 9)),(some (102,false))⟩,
    ⟨(some 104),.op (.un .not (.t 103)),(some (102,false))⟩,
    ⟨(some 105),.op (.pick (.t 102) (.c (.b true)) (.t 104)),(some (99,true))⟩,
    ⟨(some 106),.op (.pick (.t 99) (.t 105) (.c (.b false))),none⟩])
  (.cond (.t 106) (.seq (.reg false [⟨(some 107),.op (.mov (.t 10)),none⟩,
    ⟨(some 108),.op (.mov (.t 13)),none⟩,
    ⟨(some 109),.op (.build [.s [],.i .i64 0,.i .i64 0,.s []] [(2,1,(.c (.i .i64 161))),(3,1,(.t 108))]),none⟩,
    ⟨(some 110),.op (.buildS 1 [.s [],.i .i64 0,.i .i64 0,.s []] [(0,4,(.t 109))]),none⟩,
    ⟨(some 111),.op (.app 4 48 true (.t 107) (.t 110)),none⟩,
    ⟨(some 10),.op (.mov (.t 111)),none⟩])
  (.seq (.reg false [⟨(some 112),.op (.fAddr 2 (.t 14)),none⟩,
    ⟨none,.op (.store 1 (.t 112) (.c (.b false))),none⟩])
  (.reg false [⟨(some 113),.op (.fAddr 1 (.t 14)),none⟩,
    ⟨none,.op (.store 1 (.t 113) (.c (.i .u32 0))),none⟩]))) (.skip)))
  (.cut (zI f_vestibuleref16_May f_vestibuleref15_Words f_vestibuleref15_Turned f_vestibuleref15_Read f_vestibuleref11_Expand f_vestibuleref09_Known f_vestibuleref16_Put f_vestibuleref16_take))
def z7 (f_vestibuleref16_May f_vestibuleref15_Words f_vestibuleref15_Turned f_vestibuleref15_Read f_vestibuleref11_Expand f_vestibuleref09_Known f_vestibuleref16_Put f_vestibuleref16_take:Nat):ICode:=.seq (.seq (.reg false [⟨(some 89),.op (.mov (.t 15)),none⟩,
    ⟨(some 90),.op (.bin .neq (.t 89) (.c (.i .i64 0))),none⟩])
  (.cond (.t 90) (.seq (.reg false [⟨(some 91),.op (.mov (.t 10)),none⟩,
    ⟨(some 92),.op (.mov (.t 15)),none⟩,
    ⟨(some 93),.op (.mov (.t 13)),none⟩,
    ⟨(some 94),.op (.build [.s [],.i .i64 0,.i .i64 0,.s []] [(2,1,(.t 92)),(3,1,(.t 93))]),none⟩,
    ⟨(some 95),.op (.buildS 1 [.s [],.i .i64 0,.i .i64 0,.s []] [(0,4,(.t 94))]),none⟩,
    ⟨(some 96),.op (.app 4 48 true (.t 91) (.t 95)),none⟩,
    ⟨(some 10),.op (.mov (.t 96)),none⟩])
  (.exit 1)) (.skip)))
  (.cut (z9 f_vestibuleref16_May f_vestibuleref15_Words f_vestibuleref15_Turned f_vestibuleref15_Read f_vestibuleref11_Expand f_vestibuleref09_Known f_vestibuleref16_Put f_vestibuleref16_take))
def zH (f_vestibuleref16_May f_vestibuleref15_Words f_vestibuleref15_Turned f_vestibuleref15_Read f_vestibuleref11_Expand f_vestibuleref09_Known f_vestibuleref16_Put f_vestibuleref16_take:Nat):ICode:=.seq (.reg false [⟨(some 56),.op (.mov (.t 11)),none⟩,
    ⟨(some 57),.op (.mov (.t 12)),none⟩,
    ⟨(some 58),.op (.iAddrS 1 (.t 56) (.t 57)),none⟩,
    ⟨(some 59),.op (.load1 (.t 58)),none⟩,
    ⟨(some 60),.callF f_vestibuleref15_Read [(.t 59)],none⟩,
    ⟨(some 55),.op (.mov (.t 60)),none⟩,
    ⟨(some 61),.op (.ext (.t 55) 0),none⟩,
    ⟨(some 62),.op (.ext (.t 55) 1),none⟩,
    ⟨(some 14),.op (.alloc [.s [],.i .u32 0,.b false]),none⟩,
    ⟨none,.op (.store 3 (.t 14) (.t 61)),none⟩,
    ⟨(some 15),.op (.mov (.t 62)),none⟩])
  (.seq (.reg false [⟨(some 16),.op (.mov (.c (.nils))),none⟩])
  (.seq (.seq (.reg false [⟨(some 63),.op (.mov (.t 15)),none⟩,
    ⟨(some 64),.op (.bin .eql (.t 63) (.c (.i .i64 0))),none⟩,
    ⟨(some 65),.op (.mov (.t 64)),none⟩,
    ⟨(some 66),.op (.fAddr 0 (.t 14)),(some (65,true))⟩,
    ⟨(some 67),.op (.load1 (.t 66)),(some (65,true))⟩,
    ⟨(some 68),.op (.idxS (.t 67) (.c (.i .i64 0))),(some (65,true))⟩,
    ⟨(some 69),.op (.bin .eql (.t 68) (.c (.i .u8 64))),(some (65,true))⟩,
    ⟨(some 70),.op (.pick (.t 65) (.t 69) (.c (.b false))),none⟩])
  (.cond (.t 70) (.reg false [⟨(some 72),.op (.fAddr 0 (.t 14)),none⟩,
    ⟨(some 73),.op (.load1 (.t 72)),none⟩,
    ⟨(some 74),.callF f_vestibuleref11_Expand [(.t 73)],none⟩,
    ⟨(some 71),.op (.mov (.t 74)),none⟩,
    ⟨(some 75),.op (.ext (.t 71) 0),none⟩,
    ⟨(some 76),.op (.ext (.t 71) 1),none⟩,
    ⟨(some 16),.op (.mov (.t 75)),none⟩,
    ⟨(some 15),.op (.mov (.t 76)),none⟩]) (.seq (.reg false [⟨(some 77),.op (.mov (.t 15)),none⟩,
    ⟨(some 78),.op (.bin .eql (.t 77) (.c (.i .i64 0))),none⟩,
    ⟨(some 79),.op (.mov (.t 78)),none⟩,
    ⟨(some 80),.op (.fAddr 0 (.t 14)),(some (79,true))⟩,
    ⟨(some 81),.op (.load1 (.t 80)),(some (79,true))⟩,
    ⟨(some 82),.callF f_vestibuleref09_Known [(.t 81)],(some (79,true))⟩,
    ⟨(some 83),.op (.pick (.t 79) (.t 82) (.c (.b false))),none⟩])
  (.cond (.t 83) (.reg false [⟨(some 84),.op (.fAddr 0 (.t 14)),none⟩,
    ⟨(some 85),.op (.load1 (.t 84)),none⟩,
    ⟨(some 86),.op (.buildS 1 [.s []] [(0,1,(.t 85))]),none⟩,
    ⟨(some 16),.op (.mov (.t 86)),none⟩]) (.seq (.reg false [⟨(some 87),.op (.mov (.t 15)),none⟩,
    ⟨(some 88),.op (.bin .eql (.t 87) (.c (.i .i64 0))),none⟩])
  (.cond (.t 88) (.reg false [⟨(some 15),.op (.mov (.c (.i .i64 90))),none⟩]) (.skip)))))))
  (.cut (z7 f_vestibuleref16_May f_vestibuleref15_Words f_vestibuleref15_Turned f_vestibuleref15_Read f_vestibuleref11_Expand f_vestibuleref09_Known f_vestibuleref16_Put f_vestibuleref16_take))))
def xf (f_vestibuleref16_May f_vestibuleref15_Words f_vestibuleref15_Turned f_vestibuleref15_Read f_vestibuleref11_Expand f_vestibuleref09_Known f_vestibuleref16_Put f_vestibuleref16_take:Nat):ICode:=.seq (.seq (.reg false [⟨(some 12),.op (.mov (.c (.i .i64 0))),none⟩])
  (.blk 0 (.loop (.seq (.seq (.reg false [⟨(some 40),.op (.mov (.t 12)),none⟩,
    ⟨(some 41),.op (.mov (.t 11)),none⟩,
    ⟨(some 42),.op (.len false (.t 41)),none⟩,
    ⟨(some 43),.op (.bin .lss (.t 40) (.t 42)),none⟩])
  (.cond (.t 43) (.skip) (.exit 0)))
  (.seq (.blk 1 (.seq (.reg false [⟨(some 46),.op (.mov (.t 11)),none⟩,
    ⟨(some 47),.op (.mov (.t 12)),none⟩,
    ⟨(some 48),.op (.iAddrS 1 (.t 46) (.t 47)),none⟩,
    ⟨(some 49),.op (.load1 (.t 48)),none⟩,
    ⟨(some 13),.op (.mov (.t 49)),none⟩])
  (.seq (.seq (.reg false [⟨(some 50),.op (.mov (.t 13)),none⟩,
    ⟨(some 51),.op (.len true (.t 50)),none⟩,
    ⟨(some 52),.op (.bin .gtr (.t 51) (.c (.i .i64 60))),none⟩])
  (.cond (.t 52) (.reg false [⟨(some 53),.op (.mov (.t 13)),none⟩,
    ⟨(some 54),.op (.slcStr (.t 53) none (some (.c (.i .i64 60)))),none⟩,
    ⟨(some 13),.op (.mov (.t 54)),none⟩]) (.skip)))
  (.cut (zH f_vestibuleref16_May f_vestibuleref15_Words f_vestibuleref15_Turned f_vestibuleref15_Read f_vestibuleref11_Expand f_vestibuleref09_Known f_vestibuleref16_Put f_vestibuleref16_take)))))
  (.cut (z5 f_vestibuleref16_May f_vestibuleref15_Words f_vestibuleref15_Turned f_vestibuleref15_Read f_vestibuleref11_Expand f_vestibuleref09_Known f_vestibuleref16_Put f_vestibuleref16_take)))))))
  (.seq (.reg false [⟨(some 153),.op (.loadN 2 (.t 3)),none⟩,
    ⟨(some 154),.op (.mov (.t 10)),none⟩,
    ⟨none,.op (.store 2 (.t 6) (.t 153)),none⟩,
    ⟨(some 7),.op (.mov (.t 154)),none⟩])
  (.ret))
def wl (f_vestibuleref16_May f_vestibuleref15_Words f_vestibuleref15_Turned f_vestibuleref15_Read f_vestibuleref11_Expand f_vestibuleref09_Known f_vestibuleref16_Put f_vestibuleref16_take:Nat):IFn:=⟨[.cell 6 2 true,.tmp 7],
  .seq (.reg false [⟨(some 3),.op (.box (.t 0)),none⟩,
    ⟨(some 6),.op (.alloc [.i .u8 0,.nils]),none⟩,
    ⟨(some 7),.op (.mov (.c (.nils))),none⟩])
  (.seq (.seq (.reg false [⟨(some 18),.op (.loadN 2 (.t 3)),none⟩,
    ⟨(some 19),.callF f_vestibuleref16_May [(.t 18)],none⟩,
    ⟨(some 20),.op (.un .not (.t 19)),none⟩])
  (.cond (.t 20) (.seq (.reg false [⟨(some 21),.op (.loadN 2 (.t 3)),none⟩,
    ⟨none,.op (.store 2 (.t 6) (.t 21)),none⟩,
    ⟨(some 7),.op (.mov (.c (.nils))),none⟩])
  (.ret)) (.skip)))
  (.seq (.seq (.reg false [⟨(some 22),.op (.mov (.t 1)),none⟩,
    ⟨(some 23),.callF f_vestibuleref15_Words [(.t 22)],none⟩,
    ⟨(some 24),.op (.len false (.t 23)),none⟩,
    ⟨(some 25),.op (.bin .eql (.t 24) (.c (.i .i64 0))),none⟩])
  (.cond (.t 25) (.seq (.reg false [⟨(some 26),.op (.build [.i .u8 0,.nils] []),none⟩,
    ⟨none,.op (.store 2 (.t 6) (.t 26)),none⟩,
    ⟨(some 7),.op (.mov (.c (.nils))),none⟩])
  (.ret)) (.skip)))
  (.seq (.reg false [⟨(some 28),.op (.mov (.t 1)),none⟩,
    ⟨(some 29),.callF f_vestibuleref15_Turned [(.t 28)],none⟩,
    ⟨(some 27),.op (.mov (.t 29)),none⟩,
    ⟨(some 30),.op (.ext (.t 27) 0),none⟩,
    ⟨(some 31),.op (.ext (.t 27) 1),none⟩,
    ⟨(some 8),.op (.mov (.t 30)),none⟩,
    ⟨(some 9),.op (.mov (.t 31)),none⟩])
  (.seq (.seq (.reg false [⟨(some 32),.op (.fAddr 0 (.t 3)),none⟩,
    ⟨(some 33),.op (.load1 (.t 32)),none⟩,
    ⟨(some 34),.op (.bin .eql (.t 33) (.c (.i .u8 0))),none⟩])
  (.cond (.t 34) (.seq (.reg false [⟨(some 35),.op (.fAddr 0 (.t 3)),none⟩,
    ⟨none,.op (.store 1 (.t 35) (.c (.i .u8 1))),none⟩])
  (.seq (.reg false [⟨(some 36),.op (.mov (.t 9)),none⟩])
  (.cond (.t 36) (.reg false [⟨(some 37),.op (.fAddr 0 (.t 3)),none⟩,
    ⟨none,.op (.store 1 (.t 37) (.c (.i .u8 2))),none⟩]) (.skip)))) (.skip)))
  (.seq (.reg false [⟨(some 10),.op (.mov (.c (.nils))),none⟩])
  (.seq (.reg false [⟨(some 38),.op (.mov (.t 8)),none⟩,
    ⟨(some 39),.callF f_vestibuleref15_Words [(.t 38)],none⟩,
    ⟨(some 11),.op (.mov (.t 39)),none⟩])
  (.cut (xf f_vestibuleref16_May f_vestibuleref15_Words f_vestibuleref15_Turned f_vestibuleref15_Read f_vestibuleref11_Expand f_vestibuleref09_Known f_vestibuleref16_Put f_vestibuleref16_take))))))))⟩
theorem qkE {l:GList} (h:zA l = true) (s:List UInt8):jF l s = ⟨l.mode,wo l.calls s⟩:=by unfold jF; rw [h]; rfl
def qdj (m:Int) (t has:Bool):Bool:=(decide (m = 1) && (!t || has)) || (decide (m = 2) && t)
theorem qbj {g1 g2 g3 g4 g5 g6 g7 g8:Nat} (h7:qbJ P g7) (h8:kH P g8) (fl t:Bool) (W N:List (List UInt8)) (j:Nat) (l:GList) (wd:Word) (ns:List GNote) (hW:W.length ≤ 1000) (hN:N.length ≤ 1000)
    (hl:zA l = true) (hm:l.mode = 1 ∨ l.mode = 2) (hk:∀ n ∈ N,zn n = true) (ha:wK wd.act = true) (Q:X → Tr AV → Hp → Prop)
    (hQ:∀ t' h',Wk 0 t' h' (mkT [(2,.b fl),(3,.ptr 0 0),(6,.ptr 1 0),(9,.b t),(10,.own 2 ns.length),(11,.fz W.length (rS W)),(12,.i .i64 j)]) (mkH 0 [.cells 0 true false (qk (N.foldl (zh (qdj l.mode t wd.has) wd.act) l)),.cells 0 true false [.i .u8 0,.nils],.cells 4 true true (rN ns)]) → Q .normal t' h') :
    S P 0 (zI g1 g2 g3 g4 g5 g6 g7 g8) Q
      (mkT [(2,.b fl),(3,.ptr 0 0),(6,.ptr 1 0),(9,.b t),(10,.own 2 ns.length),(11,.fz W.length (rS W)),(12,.i .i64 j),(14,.ptr 3 0),(16,.fz N.length (rS N))])
      (mkH 0 [.cells 0 true false (qk l),.cells 0 true false [.i .u8 0,.nils],.cells 4 true true (rN ns),.cells 0 true false (qK wd)]):=by
  refine qy ?_
  simp only [zI,qk,qm,H0,mkT,mkH,trL,vI,simprocAttr]
  simp only [↓vS,vT,shb,shv,qb,qc,cellsOf,wr,qa,simprocAttr]
  generalize hins:qdj l.mode t wd.has = ins at hQ
  refine SL.loop (α:=Nat) (fun k=>[(2,.b fl),(3,.ptr 0 0),(6,.ptr 1 0),(9,.b t),(10,.own 2 ns.length),(11,.fz W.length (rS W)),(12,.i .i64 j),(14,.ptr 3 0),(16,.fz N.length (rS N)),(17,.i .i64 k)])
    (fun k=>[.cells 0 true false (qk ((N.take k).foldl (zh ins wd.act) l)),.cells 0 true false [.i .u8 0,.nils],.cells 4 true true (rN ns),.cells 0 true false (qK wd)])
    (fun k=>k ≤ N.length) (fun k=>N.length - k) 0 [0,1,2,3] ?_ ?_ ?_ rfl ?_ ?_
  · simp [vw]
  · simp [vw,qk,qe,qj,qd,qK]
  · simp
  · exact Nat.zero_le _
  rintro k hk1 G ih
  have hmay:=vH (ins:=ins) ha hl (by omega) (fun n hn=>hk n (List.mem_of_mem_take (i:=k) hn))
  have hlen:=yn hmay
  have hmd:=yh ins wd.act (N.take k) l
  generalize hr:(N.take k).foldl (zh ins wd.act) l = r at hmay hlen hmd ih ⊢
  simp only [qm,H0,mkT,mkH,trL,vI,simprocAttr]
  by_cases hlt:k < N.length
  · have hx:(rS N)[k]? = some (.s N[k]):=by rw [qdV,List.getElem?_eq_getElem hlt]; rfl
    have hw:IntKind.wrap .i64 ((k:Int) + 1) = ((k + 1:Nat):Int):=by rw [qE (by omega) (by omega)]; omega
    have hnext:(N.take (k + 1)).foldl (zh ins wd.act) l = zh ins wd.act r N[k]:=by
      rw [List.take_add_one,List.getElem?_eq_getElem hlt,List.foldl_append,hr]; rfl
    have ih2:=ih (k + 1)
    rw [hnext] at ih2
    rw [← hmd] at hm hins
    have htw:=qkE hmay N[k]
    have hrn:=qlB hmay
    simp only [qk,qK]
    simp only [↓vS,vT,shb,shv,qb,qc,cellsOf,wr,qa,simprocAttr,hlt]
    rcases hm with e | e
    · cases t with
      | true =>
        cases hh:wd.has with
        | true =>
          have hi:ins = true:=by rw [← hins,e,hh]; rfl
          subst hi
          simp (decide:=true) only [↓vS,vT,shb,shv,qb,qc,cellsOf,wr,qa,simprocAttr,e]
          refine zU ?_
          simp only [↓vS,vT,shb,shv,qb,qc,cellsOf,wr,qa,simprocAttr,hlt,hx,Nat.mul_one]
          refine (h7 r N[k] wd.act (by omega) hrn).pc ?_
          simp only [↓vS,vT,shb,shv,qb,qc,cellsOf,wr,qa,simprocAttr,hw,qk]
          refine ih2 (by omega) (by omega) _ _ (Wk.mk _ _ [0,1,2,3] ?_ ?_ ?_ rfl)
          · simp [vw]
          · simp [vw,qk,qe,qj,qd,qK,zh,hh]
          · simp
        | false =>
          have hi:ins = false:=by rw [← hins,e,hh]; rfl
          subst hi
          simp (decide:=true) only [↓vS,vT,shb,shv,qb,qc,cellsOf,wr,qa,simprocAttr,e]
          refine zU ?_
          simp only [↓vS,vT,shb,shv,qb,qc,cellsOf,wr,qa,simprocAttr,hlt,hx,Nat.mul_one]
          refine (qag h8 r N[k] (by omega)).pc ?_
          simp only [↓vS,vT,shb,shv,qb,qc,cellsOf,wr,qa,simprocAttr,hw,qk]
          refine ih2 (by omega) (by omega) _ _ (Wk.mk _ _ [0,1,2,3] ?_ ?_ ?_ rfl)
          · simp [vw]
          · simp [vw,qk,qe,qj,qd,qK,zh,htw,hh,e]
          · simp
      | false =>
        cases hh:wd.has with
        | true =>
          have hi:ins = true:=by rw [← hins,e,hh]; rfl
          subst hi
          simp (decide:=true) only [↓vS,vT,shb,shv,qb,qc,cellsOf,wr,qa,simprocAttr,e]
          refine zU ?_
          simp only [↓vS,vT,shb,shv,qb,qc,cellsOf,wr,qa,simprocAttr,hlt,hx,Nat.mul_one]
          refine (h7 r N[k] wd.act (by omega) hrn).pc ?_
          simp only [↓vS,vT,shb,shv,qb,qc,cellsOf,wr,qa,simprocAttr,hw,qk]
          refine ih2 (by omega) (by omega) _ _ (Wk.mk _ _ [0,1,2,3] ?_ ?_ ?_ rfl)
          · simp [vw]
          · simp [vw,qk,qe,qj,qd,qK,zh,hh]
          · simp
        | false =>
          have hi:ins = true:=by rw [← hins,e,hh]; rfl
          subst hi
          simp (decide:=true) only [↓vS,vT,shb,shv,qb,qc,cellsOf,wr,qa,simprocAttr,e]
          refine zU ?_
          simp only [↓vS,vT,shb,shv,qb,qc,cellsOf,wr,qa,simprocAttr,hlt,hx,Nat.mul_one]
          refine (h7 r N[k] wd.act (by omega) hrn).pc ?_
          simp only [↓vS,vT,shb,shv,qb,qc,cellsOf,wr,qa,simprocAttr,hw,qk]
          refine ih2 (by omega) (by omega) _ _ (Wk.mk _ _ [0,1,2,3] ?_ ?_ ?_ rfl)
          · simp [vw]
          · simp [vw,qk,qe,qj,qd,qK,zh,hh]
          · simp
    · cases t with
      | true =>
        cases hh:wd.has with
        | true =>
          have hi:ins = true:=by rw [← hins,e,hh]; rfl
          subst hi
          simp (decide:=true) only [↓vS,vT,shb,shv,qb,qc,cellsOf,wr,qa,simprocAttr,e]
          refine zU ?_
          simp only [↓vS,vT,shb,shv,qb,qc,cellsOf,wr,qa,simprocAttr,hlt,hx,Nat.mul_one]
          refine (h7 r N[k] wd.act (by omega) hrn).pc ?_
          simp only [↓vS,vT,shb,shv,qb,qc,cellsOf,wr,qa,simprocAttr,hw,qk]
          refine ih2 (by omega) (by omega) _ _ (Wk.mk _ _ [0,1,2,3] ?_ ?_ ?_ rfl)
          · simp [vw]
          · simp [vw,qk,qe,qj,qd,qK,zh,hh]
          · simp
        | false =>
          have hi:ins = true:=by rw [← hins,e,hh]; rfl
          subst hi
          simp (decide:=true) only [↓vS,vT,shb,shv,qb,qc,cellsOf,wr,qa,simprocAttr,e]
          refine zU ?_
          simp only [↓vS,vT,shb,shv,qb,qc,cellsOf,wr,qa,simprocAttr,hlt,hx,Nat.mul_one]
          refine (h7 r N[k] wd.act (by omega) hrn).pc ?_
          simp only [↓vS,vT,shb,shv,qb,qc,cellsOf,wr,qa,simprocAttr,hw,qk]
          refine ih2 (by omega) (by omega) _ _ (Wk.mk _ _ [0,1,2,3] ?_ ?_ ?_ rfl)
          · simp [vw]
          · simp [vw,qk,qe,qj,qd,qK,zh,hh]
          · simp
      | false =>
        cases hh:wd.has with
        | true =>
          have hi:ins = false:=by rw [← hins,e,hh]; rfl
          subst hi
          simp (decide:=true) only [↓vS,vT,shb,shv,qb,qc,cellsOf,wr,qa,simprocAttr,e]
          refine zU ?_
          simp only [↓vS,vT,shb,shv,qb,qc,cellsOf,wr,qa,simprocAttr,hlt,hx,Nat.mul_one]
          refine (qag h8 r N[k] (by omega)).pc ?_
          simp only [↓vS,vT,shb,shv,qb,qc,cellsOf,wr,qa,simprocAttr,hw,qk]
          refine ih2 (by omega) (by omega) _ _ (Wk.mk _ _ [0,1,2,3] ?_ ?_ ?_ rfl)
          · simp [vw]
          · simp [vw,qk,qe,qj,qd,qK,zh,htw,hh,e]
          · simp
        | false =>
          have hi:ins = false:=by rw [← hins,e,hh]; rfl
          subst hi
          simp (decide:=true) only [↓vS,vT,shb,shv,qb,qc,cellsOf,wr,qa,simprocAttr,e]
          refine zU ?_
          simp only [↓vS,vT,shb,shv,qb,qc,cellsOf,wr,qa,simprocAttr,hlt,hx,Nat.mul_one]
          refine (qag h8 r N[k] (by omega)).pc ?_
          simp only [↓vS,vT,shb,shv,qb,qc,cellsOf,wr,qa,simprocAttr,hw,qk]
          refine ih2 (by omega) (by omega) _ _ (Wk.mk _ _ [0,1,2,3] ?_ ?_ ?_ rfl)
          · simp [vw]
          · simp [vw,qk,qe,qj,qd,qK,zh,htw,hh,e]
          · simp
  · have hkl:N.take k = N:=List.take_of_length_le (by omega)
    rw [hkl] at hr
    rw [hr] at hQ
    simp only [qk,qK]
    simp only [↓vS,vT,shb,shv,qb,qc,cellsOf,wr,qa,simprocAttr,hlt]
    refine hQ _ _ (Wk.mk _ _ [0,1,2] ?_ ?_ ?_ rfl)
    · simp [vw]
    · simp [vw,qk,qe,qj,qd]
    · simp
theorem qdp {g1 g2 g3 g4 g5 g6 g7 g8:Nat} (fl t:Bool) (W:List (List UInt8)) (j:Nat) (hj:j < 100000) (l:GList) (ns:List GNote) (Q:X → Tr AV → Hp → Prop)
    (hQ:∀ t' h',Wk 0 t' h' (mkT [(2,.b fl),(3,.ptr 0 0),(6,.ptr 1 0),(9,.b t),(10,.own 2 ns.length),(11,.fz W.length (rS W)),(12,.i .i64 (j + 1:Nat))]) (mkH 0 [.cells 0 true false (qk l),.cells 0 true false [.i .u8 0,.nils],.cells 4 true true (rN ns)]) → Q .normal t' h') :
    S P 0 (z5 g1 g2 g3 g4 g5 g6 g7 g8) Q (mkT [(2,.b fl),(3,.ptr 0 0),(6,.ptr 1 0),(9,.b t),(10,.own 2 ns.length),(11,.fz W.length (rS W)),(12,.i .i64 j)]) (mkH 0 [.cells 0 true false (qk l),.cells 0 true false [.i .u8 0,.nils],.cells 4 true true (rN ns)]):=by
  have hw:IntKind.wrap .i64 ((j:Int) + 1) = ((j + 1:Nat):Int):=by rw [qE (by omega) (by omega)]; omega
  refine qy ?_
  simp only [z5,qk,qm,H0,mkT,mkH,trL,vI,simprocAttr]
  simp only [↓vS,vT,shb,shv,qb,qc,cellsOf,wr,qa,simprocAttr,hw]
  refine hQ _ _ (Wk.mk _ _ [0,1,2] ?_ ?_ ?_ rfl)
  · simp [vw]
  · simp [vw,qk,qe,qj,qd]
  · simp
theorem qhH {g1 g2 g3 g4 g5 g6 g7 g8:Nat} (h7:qbJ P g7) (h8:kH P g8) (fl t:Bool) (W N:List (List UInt8)) (j:Nat) (l:GList) (wd:Word) (w:List UInt8) (ns:List GNote) (hW:W.length ≤ 1000) (hN:N.length ≤ 1000) (hns:ns.length ≤ 100000)
    (hl:zA l = true) (hm:l.mode = 1 ∨ l.mode = 2) (hk:∀ n ∈ N,zn n = true) (ha:wK wd.act = true) (s':GList × List GNote)
    (hs:s' = if wd.has = true ∧ (fl = false ∨ t = false) then (N.foldl (zh (qdj l.mode t false) 0) l,ns ++ [zk 161 w]) else (N.foldl (zh (qdj l.mode t wd.has) wd.act) l,ns)) (Q:X → Tr AV → Hp → Prop)
    (hQ:∀ t' h',Wk 0 t' h' (mkT [(2,.b fl),(3,.ptr 0 0),(6,.ptr 1 0),(9,.b t),(10,.own 2 s'.2.length),(11,.fz W.length (rS W)),(12,.i .i64 j)]) (mkH 0 [.cells 0 true false (qk s'.1),.cells 0 true false [.i .u8 0,.nils],.cells 4 true true (rN s'.2)]) → Q .normal t' h') :
    S P 0 (z9 g1 g2 g3 g4 g5 g6 g7 g8) Q
      (mkT [(2,.b fl),(3,.ptr 0 0),(6,.ptr 1 0),(9,.b t),(10,.own 2 ns.length),(11,.fz W.length (rS W)),(12,.i .i64 j),(13,.s (w.take 60)),(14,.ptr 3 0),(16,.fz N.length (rS N))]) (mkH 0 [.cells 0 true false (qk l),.cells 0 true false [.i .u8 0,.nils],.cells 4 true true (rN ns),.cells 0 true false (qK wd)]):=by
  refine qy ?_
  simp only [z9,qk,qK,qm,H0,mkT,mkH,trL,vI,simprocAttr]
  have hr1:ns.length + 1 ≤ qi:=by simp only [qi]; omega
  have hr2:(ns.length + 1) * 48 ≤ qi:=by simp only [qi]; omega
  have hap:rN ns ++ [AV.s [],.i .i64 0,.i .i64 161,.s (w.take 60)] = rN (ns ++ [zk 161 w]):=by rw [← qaw]; rfl
  cases hh:wd.has with
  | false =>
    rw [if_neg (by simp [hh])] at hs
    subst hs
    simp only [↓vS,vT,shb,shv,qb,qc,cellsOf,wr,qa,simprocAttr]
    refine S.weak (Wk.mk _ _ [0,1,2,3] ?_ ?_ ?_ rfl) (qbj h7 h8 fl t W N j l wd ns hW hN hl hm hk ha Q hQ)
    · simp [vw]
    · simp [vw,qk,qe,qj,qd,qK,hh]
    · simp
  | true =>
    by_cases hft:fl = false ∨ t = false
    · rw [if_pos ⟨hh,hft⟩] at hs
      subst hs
      have go:S P 0 (zI g1 g2 g3 g4 g5 g6 g7 g8) Q (mkT [(2,.b fl),(3,.ptr 0 0),(6,.ptr 1 0),(9,.b t),(10,.own 2 (ns ++ [zk 161 w]).length),(11,.fz W.length (rS W)),(12,.i .i64 j),(14,.ptr 3 0),(16,.fz N.length (rS N))])
        (mkH 0 [.cells 0 true false (qk l),.cells 0 true false [.i .u8 0,.nils],.cells 4 true true (rN (ns ++ [zk 161 w])),.cells 0 true false (qK ⟨wd.name,0,false⟩)]):=qbj h7 h8 fl t W N j l ⟨wd.name,0,false⟩ (ns ++ [zk 161 w]) hW hN hl hm hk rfl Q hQ
      cases fl with
      | false =>
        simp (decide:=true) only [↓vS,vT,shb,shv,qb,qc,cellsOf,wr,qa,simprocAttr,hr1,hr2,kh,hap]
        refine S.weak (Wk.mk _ _ [0,1,5,3] ?_ ?_ ?_ rfl) go
        · simp [vw]
        · simp [vw,qk,qe,qj,qd,qK]
        · simp
      | true =>
        have ht:t = false:=by rcases hft with h | h; cases h; exact h
        subst ht
        simp (decide:=true) only [↓vS,vT,shb,shv,qb,qc,cellsOf,wr,qa,simprocAttr,hr1,hr2,kh,hap]
        refine S.weak (Wk.mk _ _ [0,1,5,3] ?_ ?_ ?_ rfl) go
        · simp [vw]
        · simp [vw,qk,qe,qj,qd,qK]
        · simp
    · rw [if_neg (by simp [hft])] at hs
      subst hs
      have hf:fl = true:=by cases fl <;> simp_all
      have ht:t = true:=by cases t <;> simp_all
      subst hf ht
      simp only [↓vS,vT,shb,shv,qb,qc,cellsOf,wr,qa,simprocAttr]
      refine S.weak (Wk.mk _ _ [0,1,2,3] ?_ ?_ ?_ rfl) (qbj h7 h8 true true W N j l wd ns hW hN hl hm hk ha Q hQ)
      · simp [vw]
      · simp [vw,qk,qe,qj,qd,qK,hh]
      · simp
theorem QB {g1 g2 g3 g4 g5 g6 g7 g8:Nat} (h7:qbJ P g7) (h8:kH P g8) (fl t:Bool) (W N:List (List UInt8)) (j:Nat) (l:GList) (wd:Word) (w:List UInt8) (e:Int) (ns:List GNote) (hW:W.length ≤ 1000) (hN:N.length ≤ 1000) (hns:ns.length ≤ 100000)
    (hl:zA l = true) (hm:l.mode = 1 ∨ l.mode = 2) (hk:∀ n ∈ N,zn n = true) (ha:wK wd.act = true) (s':GList × List GNote)
    (hs:s' = if e ≠ 0 then (l,ns ++ [zk e w]) else if wd.has = true ∧ (fl = false ∨ t = false) then (N.foldl (zh (qdj l.mode t false) 0) l,ns ++ [zk 161 w]) else (N.foldl (zh (qdj l.mode t wd.has) wd.act) l,ns)) (Q:X → Tr AV → Hp → Prop)
    (hQ:∀ t' h',Wk 0 t' h' (mkT [(2,.b fl),(3,.ptr 0 0),(6,.ptr 1 0),(9,.b t),(10,.own 2 s'.2.length),(11,.fz W.length (rS W)),(12,.i .i64 j)]) (mkH 0 [.cells 0 true false (qk s'.1),.cells 0 true false [.i .u8 0,.nils],.cells 4 true true (rN s'.2)]) → Q .normal t' h' ∧ Q (.exit 1) t' h') :
    S P 0 (z7 g1 g2 g3 g4 g5 g6 g7 g8) Q
      (mkT [(2,.b fl),(3,.ptr 0 0),(6,.ptr 1 0),(9,.b t),(10,.own 2 ns.length),(11,.fz W.length (rS W)),(12,.i .i64 j),(13,.s (w.take 60)),(14,.ptr 3 0),(15,.i .i64 e),(16,.fz N.length (rS N))]) (mkH 0 [.cells 0 true false (qk l),.cells 0 true false [.i .u8 0,.nils],.cells 4 true true (rN ns),.cells 0 true false (qK wd)]):=by
  refine qy ?_
  simp only [z7,qk,qK,qm,H0,mkT,mkH,trL,vI,simprocAttr]
  have hr1:ns.length + 1 ≤ qi:=by simp only [qi]; omega
  have hr2:(ns.length + 1) * 48 ≤ qi:=by simp only [qi]; omega
  have hap:rN ns ++ [AV.s [],.i .i64 0,.i .i64 e,.s (w.take 60)] = rN (ns ++ [zk e w]):=by rw [← qaw]; rfl
  by_cases he:e = 0
  · rw [if_neg (by simp [he])] at hs
    simp only [↓vS,vT,shb,shv,qb,qc,cellsOf,wr,qa,simprocAttr,he]
    refine S.weak (Wk.mk _ _ [0,1,2,3] ?_ ?_ ?_ rfl) (qhH h7 h8 fl t W N j l wd w ns hW hN hns hl hm hk ha s' hs _ (fun t' h' hw=>(hQ t' h' hw).1))
    · simp [vw]
    · simp [vw,qk,qe,qj,qd,qK]
    · simp
  · rw [if_pos he] at hs
    subst hs
    simp (decide:=true) only [↓vS,vT,shb,shv,qb,qc,cellsOf,wr,qa,simprocAttr,he,hr1,hr2,kh,hap]
    refine (hQ _ _ (Wk.mk _ _ [0,1,5] ?_ ?_ ?_ rfl)).2
    · simp [vw]
    · simp [vw,qk,qe,qj,qd]
    · simp
end Go.Kc
end
section
/- What the document makes of a list by a value, whole; and by values. Condition: the functions' texts are these. -/
namespace Go.Kc
variable {P:Program} {f:Nat}
theorem qcz {m:Int} (hm:m = 1 ∨ m = 2) (t:Bool):qdj m t false = decide (m - 1 = if t = true then 1 else 0):=by
  rcases hm with rfl | rfl <;> cases t <;> rfl
theorem qib {m:Int} (hm:m = 1 ∨ m = 2):qdj m true true = true:=by
  rcases hm with rfl | rfl <;> rfl
theorem qhm (E:List UInt8 → List (List UInt8) × Int) (fl t:Bool) {l:GList} (hm:l.mode = 1 ∨ l.mode = 2) (ns:List GNote) (w:List UInt8) (h1:(ql w).2 = 0) :
    qH E fl t (l,ns) w = if (zB E (ql w).1.name).2 ≠ 0 then (l,ns ++ [zk (zB E (ql w).1.name).2 w])
      else if (ql w).1.has = true ∧ (fl = false ∨ t = false) then ((zB E (ql w).1.name).1.foldl (zh (qdj l.mode t false) 0) l,ns ++ [zk 161 w]) else ((zB E (ql w).1.name).1.foldl (zh (qdj l.mode t (ql w).1.has) (ql w).1.act) l,ns):=by
  unfold qH
  rw [if_neg (by simp [h1])]
  by_cases h2:(zB E (ql w).1.name).2 ≠ 0
  · rw [if_pos h2,if_pos h2]
  rw [if_neg h2,if_neg h2]
  cases hh:(ql w).1.has with
  | false=>simp only [Bool.false_eq_true,false_and,if_false,if_true,qcz hm]
  | true =>
    simp only [Bool.true_eq_false,if_false,true_and]
    by_cases hft:fl = false ∨ t = false
    · simp only [if_pos hft,qcz hm]
    · have ht:t = true:=by cases t <;> simp_all
      rw [if_neg hft,if_neg hft,ht,qib hm]
theorem qfy {w:List UInt8} (h:(ql w).2 = 0):(ql w).1.name ≠ []:=by
  unfold ql at h ⊢
  by_cases h1:(z0 w).1 = []
  · rw [if_pos h1] at h; cases h
  rw [if_neg h1] at h ⊢
  split
  · exact h1
  · rename_i h2
    rw [if_neg h2] at h
    split
    · exact h1
    · rename_i h3
      rw [if_neg h3] at h
      split
      · exact h1
      · rename_i h4; rw [if_neg h4] at h; exact absurd h h4
theorem qhE {g1 g2 g3 g4 g5 g6 g7 g8:Nat} {E:List UInt8 → List (List UInt8) × Int} (hE:ki E) (h4:qcB P g4) (h5:qbS E P g5) (h6:∀ s,qg P g6 [.s s] (.b (zn s))) (h7:qbJ P g7) (h8:kH P g8) (fl t:Bool) (W:List (List UInt8)) (j:Nat) (l:GList) (w:List UInt8) (ns:List GNote) (hW:W.length ≤ 1000) (hns:ns.length ≤ 100000)
    (hjW:j < W.length) (hx:(rS W)[j]? = some (.s w)) (hwl:w.length ≤ 1000000) (hl:zA l = true) (hm:l.mode = 1 ∨ l.mode = 2) (s':GList × List GNote) (hs:s' = qH E fl t (l,ns) w) (Q:X → Tr AV → Hp → Prop)
    (hQ:∀ t' h',Wk 0 t' h' (mkT [(2,.b fl),(3,.ptr 0 0),(6,.ptr 1 0),(9,.b t),(10,.own 2 s'.2.length),(11,.fz W.length (rS W)),(12,.i .i64 j)]) (mkH 0 [.cells 0 true false (qk s'.1),.cells 0 true false [.i .u8 0,.nils],.cells 4 true true (rN s'.2)]) → Q .normal t' h' ∧ Q (.exit 1) t' h') :
    S P 0 (zH g1 g2 g3 g4 g5 g6 g7 g8) Q (mkT [(2,.b fl),(3,.ptr 0 0),(6,.ptr 1 0),(9,.b t),(10,.own 2 ns.length),(11,.fz W.length (rS W)),(12,.i .i64 j),(13,.s (w.take 60))]) (mkH 0 [.cells 0 true false (qk l),.cells 0 true false [.i .u8 0,.nils],.cells 4 true true (rN ns)]):=by
  have hmem:=qb1 hE (ql w).1.name
  refine qy ?_
  simp only [zH,qk,qm,H0,mkT,mkH,trL,vI,simprocAttr]
  simp only [↓vS,vT,shb,shv,qb,qc,cellsOf,wr,qa,simprocAttr,hjW,hx,Nat.mul_one]
  refine (h4 w hwl).sc ?_
  by_cases e1:(ql w).2 = 0
  · rw [qhm E fl t hm ns w e1] at hs
    have hnn:=qfy e1
    have h1:0 < (ql w).1.name.length:=List.length_pos_iff.2 hnn
    obtain ⟨c,cs,hcs⟩:∃ c cs,(ql w).1.name = c :: cs:=List.exists_cons_of_ne_nil hnn
    have hx0:(ql w).1.name[0]? = some c:=by rw [hcs]; rfl
    by_cases hc:(c.toNat:Int) = 64
    · have hc':c = 64:=by rw [← UInt8.toNat_inj]; have:=hc; simp at this ⊢; omega
      have hmm:zB E (ql w).1.name = E (ql w).1.name:=by unfold zB; rw [if_pos (by rw [hcs,hc']; rfl)]
      rw [hmm] at hs hmem
      simp only [↓vS,vT,shb,shv,qb,qc,cellsOf,wr,qa,simprocAttr,e1,qK,h1,hx0,hc]
      refine (h5 (ql w).1.name).sc ?_
      simp only [↓vS,vT,shb,shv,qb,qc,cellsOf,wr,qa,simprocAttr]
      refine S.weak (Wk.mk _ _ [0,1,2,3] ?_ ?_ ?_ rfl) (QB h7 h8 fl t W (E (ql w).1.name).1 j l (ql w).1 w (E (ql w).1.name).2 ns hW (by omega) hns hl hm hmem.1 (z2 w) s' hs _ hQ)
      · simp [vw]
      · simp [vw,qk,qe,qj,qd,qK]
      · simp
    · have hc':¬ [64].isPrefixOf (ql w).1.name = true:=by
        rw [hcs]; intro h
        simp [List.isPrefixOf] at h
        exact hc (by rw [← h]; rfl)
      simp only [↓vS,vT,shb,shv,qb,qc,cellsOf,wr,qa,simprocAttr,e1,qK,h1,hx0,hc]
      refine (h6 (ql w).1.name).sc ?_
      cases hk:zn (ql w).1.name with
      | true =>
        have hmm:zB E (ql w).1.name = ([(ql w).1.name],0):=by unfold zB; rw [if_neg hc',if_pos hk]
        rw [hmm] at hs hmem
        simp only [↓vS,vT,shb,shv,qb,qc,cellsOf,wr,qa,simprocAttr]
        refine S.weak (Wk.mk [(2,.b fl),(3,.ptr 0 0),(6,.ptr 1 0),(9,.b t),(10,.own 2 ns.length),(11,.fz W.length (rS W)),(12,.i .i64 j),(13,.s (w.take 60)),(14,.ptr 3 0),(15,.i .i64 0),(16,.sl 4 0 1 1 false)] [.cells 0 true false (qk l),.cells 0 true false [.i .u8 0,.nils],.cells 4 true true (rN ns),.cells 0 true false (qK (ql w).1),.cells 0 true false [.s (ql w).1.name]] [0,1,2,3,4] ?_ ?_ ?_ rfl) ?_
        · simp [vw]
        · simp [vw,qk,qe,qj,qd,qK]
        · simp
        refine S.weak (Wk.freeze 4 1 0 rfl rfl (Nat.zero_le _) (by simp)) ?_
        refine S.weak (Wk.mk _ _ [0,1,2,3] ?_ ?_ ?_ rfl) (QB h7 h8 fl t W [(ql w).1.name] j l (ql w).1 w 0 ns hW (by simp) hns hl hm hmem.1 (z2 w) s' hs _ hQ)
        · simp [vw,mkT,fzv,wI,rS]
        · simp [vw,mkH,trL,fzB,wI,fzv,qk,qe,qj,qd,qK,kq qj]
        · simp [mkH]
      | false =>
        have hmm:zB E (ql w).1.name = ([],90):=by unfold zB; rw [if_neg hc',if_neg (by simp [hk])]
        rw [hmm] at hs hmem
        simp only [↓vS,vT,shb,shv,qb,qc,cellsOf,wr,qa,simprocAttr,e1]
        refine S.weak (Wk.mk _ _ [0,1,2,3] ?_ ?_ ?_ rfl) (QB h7 h8 fl t W [] j l (ql w).1 w 90 ns hW (by simp) hns hl hm hmem.1 (z2 w) s' hs _ hQ)
        · simp [vw,rS]
        · simp [vw,qk,qe,qj,qd,qK]
        · simp
  · have hs2:s' = (l,ns ++ [zk (ql w).2 w]):=by rw [hs]; unfold qH; rw [if_pos e1]
    simp only [↓vS,vT,shb,shv,qb,qc,cellsOf,wr,qa,simprocAttr,e1,qK]
    refine S.weak (Wk.mk _ _ [0,1,2,3] ?_ ?_ ?_ rfl) (QB h7 h8 fl t W [] j l (ql w).1 w (ql w).2 ns hW (by simp) hns hl hm (by simp) (z2 w) s' (by rw [if_pos e1]; exact hs2) _ hQ)
    · simp [vw,rS]
    · simp [vw,qk,qe,qj,qd,qK]
    · simp
theorem qa0 {g1 g2 g3 g4 g5 g6 g7 g8:Nat} {E:List UInt8 → List (List UInt8) × Int} (hE:ki E) (h4:qcB P g4) (h5:qbS E P g5) (h6:∀ s,qg P g6 [.s s] (.b (zn s))) (h7:qbJ P g7) (h8:kH P g8) (fl t:Bool) (v:List UInt8) (hv:v.length ≤ 1000) (l:GList) (hl:zA l = true) (hm:l.mode = 1 ∨ l.mode = 2) :
    S P 0 (xf g1 g2 g3 g4 g5 g6 g7 g8) (kc [.cell 6 2 true,.tmp 7] fun v' h'=>Frz h' v' (.tup [.agg (qk ((qt v).foldl (qH E fl t) (l,[])).1),.fz ((qt v).foldl (qH E fl t) (l,[])).2.length (rN ((qt v).foldl (qH E fl t) (l,[])).2)]))
      (mkT [(2,.b fl),(3,.ptr 0 0),(6,.ptr 1 0),(9,.b t),(10,.own 2 0),(11,.fz (qt v).length (rS (qt v)))]) (mkH 0 [.cells 0 true false (qk l),.cells 0 true false [.i .u8 0,.nils],.cells 4 true true []]):=by
  have hwl:=qbl v
  refine qy ?_
  simp only [xf,qk,qm,H0,mkT,mkH,trL,vI,simprocAttr]
  simp only [↓vS,vT,shb,shv,qb,qc,cellsOf,wr,qa,simprocAttr]
  refine SL.loop (α:=Nat) (fun j=>[(2,.b fl),(3,.ptr 0 0),(6,.ptr 1 0),(9,.b t),(10,.own 2 (((qt v).take j).foldl (qH E fl t) (l,[])).2.length),(11,.fz (qt v).length (rS (qt v))),(12,.i .i64 j)])
    (fun j=>[.cells 0 true false (qk (((qt v).take j).foldl (qH E fl t) (l,[])).1),.cells 0 true false [.i .u8 0,.nils],.cells 4 true true (rN (((qt v).take j).foldl (qH E fl t) (l,[])).2)])
    (fun j=>j ≤ (qt v).length) (fun j=>(qt v).length - j) 0 [0,1,2] ?_ ?_ ?_ rfl ?_ ?_
  · simp [vw,xj]
  · simp [vw,qk,qe,qj,qd,qbz]
  · simp
  · exact Nat.zero_le _
  rintro j hj G ih
  obtain ⟨k1,k2,k3⟩:=qai hE fl t ((qt v).take j) (l,[]) hl (by dsimp only; omega)
  have k4:=yn k1
  dsimp only at k2
  simp only [List.length_take,List.length_nil,Nat.zero_add] at k3
  by_cases hlt:j < (qt v).length
  · have hx:(rS (qt v))[j]? = some (.s (qt v)[j]):=by rw [qdV,List.getElem?_eq_getElem hlt]; rfl
    have hnext:((qt v).take (j + 1)).foldl (qH E fl t) (l,[]) = qH E fl t (((qt v).take j).foldl (qH E fl t) (l,[])) (qt v)[j]:=by
      rw [List.take_add_one,List.getElem?_eq_getElem hlt,List.foldl_append]; rfl
    have ih2:=ih (j + 1)
    rw [hnext] at ih2
    generalize hr:((qt v).take j).foldl (qH E fl t) (l,[]) = r at k1 k2 k3 k4 ih ih2 ⊢
    have hwd:=qck (List.getElem_mem hlt)
    generalize (qt v)[j] = w at hx hwd ih2
    obtain ⟨rl,rn⟩:=r
    dsimp only at k1 k2 k3 k4 ih2 ⊢
    have go:∀ (Q:X → Tr AV → Hp → Prop),(∀ t' h',Wk 0 t' h' (mkT [(2,.b fl),(3,.ptr 0 0),(6,.ptr 1 0),(9,.b t),(10,.own 2 (qH E fl t (rl,rn) w).2.length),(11,.fz (qt v).length (rS (qt v))),(12,.i .i64 j)]) (mkH 0 [.cells 0 true false (qk (qH E fl t (rl,rn) w).1),.cells 0 true false [.i .u8 0,.nils],.cells 4 true true (rN (qH E fl t (rl,rn) w).2)]) → Q .normal t' h' ∧ Q (.exit 1) t' h') →
        S P 0 (zH g1 g2 g3 g4 g5 g6 g7 g8) Q (mkT [(2,.b fl),(3,.ptr 0 0),(6,.ptr 1 0),(9,.b t),(10,.own 2 rn.length),(11,.fz (qt v).length (rS (qt v))),(12,.i .i64 j),(13,.s (w.take 60))]) (mkH 0 [.cells 0 true false (qk rl),.cells 0 true false [.i .u8 0,.nils],.cells 4 true true (rN rn)]) :=
      fun Q hQ=>qhE hE h4 h5 h6 h7 h8 fl t (qt v) j rl w rn (by omega) (by omega) hlt hx (by omega) k1 (by rw [k2]; exact hm) _ rfl Q hQ
    simp only [qm,H0,mkT,mkH,trL,vI,simprocAttr,qk]
    by_cases h60:(60:Int) < w.length
    · have h1:60 ≤ w.length:=by omega
      simp only [↓vS,vT,shb,shv,qb,qc,cellsOf,wr,qa,simprocAttr,hlt,hx,Nat.mul_one,h60,h1,List.drop_zero]
      refine S.weak (Wk.mk _ _ [0,1,2] ?_ ?_ ?_ rfl) (go _ (fun t' h' hw=>?_))
      · simp [vw,xj]
      · simp [vw,qk,qe,qj,qd]
      · simp
      · simp only [↓vS,vT,shb,shv,qb,qc,cellsOf,wr,qa,simprocAttr]
        exact S.weak hw (qdp fl t (qt v) j (by omega) _ _ _ (fun t'' h'' hw'=>ih2 (by omega) (by omega) t'' h'' hw'))
    · have h1:w.take 60 = w:=List.take_of_length_le (by omega)
      rw [h1] at go
      simp only [↓vS,vT,shb,shv,qb,qc,cellsOf,wr,qa,simprocAttr,hlt,hx,Nat.mul_one,h60]
      refine S.weak (Wk.mk _ _ [0,1,2] ?_ ?_ ?_ rfl) (go _ (fun t' h' hw=>?_))
      · simp [vw,xj]
      · simp [vw,qk,qe,qj,qd]
      · simp
      · simp only [↓vS,vT,shb,shv,qb,qc,cellsOf,wr,qa,simprocAttr]
        exact S.weak hw (qdp fl t (qt v) j (by omega) _ _ _ (fun t'' h'' hw'=>ih2 (by omega) (by omega) t'' h'' hw'))
  · have hjl:(qt v).take j = qt v:=List.take_of_length_le (by omega)
    rw [hjl]
    generalize (qt v).foldl (qH E fl t) (l,[]) = r
    simp only [qm,H0,mkT,mkH,trL,vI,simprocAttr,qk]
    simp only [↓vS,vT,shb,shv,qb,qc,cellsOf,wr,qa,simprocAttr,hlt]
    simp [vZ,vP,Tr.get_set,qk,qF qd,qF qj]
    intro h0; rw [h0]; rfl
end Go.Kc
end
section
/- What the document makes of a list by a value, and by values. Condition: the functions' texts are these. -/
namespace Go.Kc
variable {P:Program} {f:Nat}
def qeS (P:Program) (f:Nat):Prop:=∀ s:List UInt8,s.length ≤ 1000000 → qg P f [.s s] (.fz (qt s).length (rS (qt s)))
def qgH (P:Program) (f:Nat):Prop:=∀ s:List UInt8,qg P f [.s s] (.tup [.s (zj s).1,.b (zj s).2])
def qf4 (E:List UInt8 → List (List UInt8) × Int) (P:Program) (f:Nat):Prop:=∀ (l:GList) (v:List UInt8) (fl:Bool),l.calls.length ≤ 100000 → v.length ≤ 1000 → 0 ≤ l.mode → Rng l.calls →
  qg P f [.agg (qk l),.s v,.b fl] (.tup [.agg (qk (qR E l v fl).1),.fz (qR E l v fl).2.length (rN (qR E l v fl).2)])
theorem qo9 {g1 g2 g3 g4 g5 g6 g7 g8:Nat} {E:List UInt8 → List (List UInt8) × Int} (hc:qh P f (wl g1 g2 g3 g4 g5 g6 g7 g8) = true) (hE:ki E) (h1:qgC P g1) (h2:qeS P g2) (h3:qgH P g3) (h4:qcB P g4) (h5:qbS E P g5) (h6:∀ s,qg P g6 [.s s] (.b (zn s))) (h7:qbJ P g7) (h8:kH P g8):qf4 E P f:=by
  intro l v fl hl hv hm0 hR
  have htl:=qbB v
  refine qg.mk hc rfl ?_
  simp only [wl,qk,qm,H0,mkT,mkH,trL,vI,simprocAttr]
  simp only [↓vS,vT,shb,shv,qb,qc,cellsOf,wr,qa,simprocAttr]
  refine (h1 l hl hR).sc ?_
  cases hM:zA l with
  | false =>
    have hs:qR E l v fl = (l,[]):=if_pos hM
    rw [hs]
    simp only [↓vS,vT,shb,shv,qb,qc,cellsOf,wr,qa,simprocAttr]
    simp [vZ,vP,Tr.get_set,qk,qF qd,rN]
  | true =>
    have hmm:=((z8 l).1 hM).1
    simp only [↓vS,vT,shb,shv,qb,qc,cellsOf,wr,qa,simprocAttr]
    refine (h2 v (by omega)).sc ?_
    by_cases hw:qt v = []
    · have hs:qR E l v fl = (⟨0,[]⟩,[]):=by unfold qR; rw [if_neg (by simp [hM]),if_pos hw]
      rw [hs]
      simp only [↓vS,vT,shb,shv,qb,qc,cellsOf,wr,qa,simprocAttr,hw,List.length_nil]
      simp [vZ,vP,Tr.get_set,qk,rN,rC]
    · have hwn:¬ ((qt v).length:Int) = 0:=by have:=List.length_pos_iff.2 hw; omega
      have hs:qR E l v fl = (qt (zj v).1).foldl (qH E fl (zj v).2) (⟨kw l.mode (zj v).2,l.calls⟩,[]):=by
        unfold qR; rw [if_neg (by simp [hM]),if_neg hw]; rfl
      rw [hs]
      simp only [↓vS,vT,shb,shv,qb,qc,cellsOf,wr,qa,simprocAttr,hwn]
      refine (h3 v).sc ?_
      have key:∀ (m:Int),m = kw l.mode (zj v).2 → zA ⟨m,l.calls⟩ = true ∧ (m = 1 ∨ m = 2):=by
        intro m hm
        have hpos:=qby l.mode (zj v).2
        have h12:m = 1 ∨ m = 2:=by
          rw [hm]; unfold kw at hpos ⊢; split
          · split <;> simp
          · have:=hmm.1; omega
        exact ⟨by rw [hm]; exact qeq hM _,h12⟩
      cases ht:(zj v).2 with
      | true =>
        rw [ht] at key
        by_cases h0:l.mode = 0
        · have e:kw 0 true = 2:=rfl
          obtain ⟨k1,k2⟩:=key 2 (by rw [h0]; rfl)
          rw [show kw l.mode true = 2 from by rw [h0]; rfl]
          simp only [↓vS,vT,shb,shv,qb,qc,cellsOf,wr,qa,simprocAttr,h0]
          refine (h2 (zj v).1 (by omega)).sc ?_
          simp only [↓vS,vT,shb,shv,qb,qc,cellsOf,wr,qa,simprocAttr]
          refine S.weak (Wk.mk _ _ [0,1,2] ?_ ?_ ?_ rfl) (qa0 hE h4 h5 h6 h7 h8 fl true (zj v).1 (by omega) ⟨2,l.calls⟩ k1 k2)
          · simp [vw,xj]
          · simp [vw,qk,qe,qd]
          · simp
        · have e:kw l.mode true = l.mode:=if_neg h0
          obtain ⟨k1,k2⟩:=key l.mode e.symm
          rw [e]
          simp only [↓vS,vT,shb,shv,qb,qc,cellsOf,wr,qa,simprocAttr,h0]
          refine (h2 (zj v).1 (by omega)).sc ?_
          simp only [↓vS,vT,shb,shv,qb,qc,cellsOf,wr,qa,simprocAttr]
          refine S.weak (Wk.mk _ _ [0,1,2] ?_ ?_ ?_ rfl) (qa0 hE h4 h5 h6 h7 h8 fl true (zj v).1 (by omega) ⟨l.mode,l.calls⟩ k1 k2)
          · simp [vw,xj]
          · simp [vw,qk,qe,qd]
          · simp
      | false =>
        rw [ht] at key
        by_cases h0:l.mode = 0
        · obtain ⟨k1,k2⟩:=key 1 (by rw [h0]; rfl)
          rw [show kw l.mode false = 1 from by rw [h0]; rfl]
          simp only [↓vS,vT,shb,shv,qb,qc,cellsOf,wr,qa,simprocAttr,h0]
          refine (h2 (zj v).1 (by omega)).sc ?_
          simp only [↓vS,vT,shb,shv,qb,qc,cellsOf,wr,qa,simprocAttr]
          refine S.weak (Wk.mk _ _ [0,1,2] ?_ ?_ ?_ rfl) (qa0 hE h4 h5 h6 h7 h8 fl false (zj v).1 (by omega) ⟨1,l.calls⟩ k1 k2)
          · simp [vw,xj]
          · simp [vw,qk,qe,qd]
          · simp
        · have e:kw l.mode false = l.mode:=if_neg h0
          obtain ⟨k1,k2⟩:=key l.mode e.symm
          rw [e]
          simp only [↓vS,vT,shb,shv,qb,qc,cellsOf,wr,qa,simprocAttr,h0]
          refine (h2 (zj v).1 (by omega)).sc ?_
          simp only [↓vS,vT,shb,shv,qb,qc,cellsOf,wr,qa,simprocAttr]
          refine S.weak (Wk.mk _ _ [0,1,2] ?_ ?_ ?_ rfl) (qa0 hE h4 h5 h6 h7 h8 fl false (zj v).1 (by omega) ⟨l.mode,l.calls⟩ k1 k2)
          · simp [vw,xj]
          · simp [vw,qk,qe,qd]
          · simp
end Go.Kc
end
section
/- What the document's groups answer. Condition: the functions' texts are these. -/
namespace Go.Kc
variable {P:Program} {f:Nat}
def zM (f_vestibuleref11_Table:Nat):IFn:=⟨[.tmp 2],
  .seq (.reg false [⟨(some 2),.op (.mov (.c (.nils))),none⟩])
  (.seq (.reg false [⟨(some 5),.callF f_vestibuleref11_Table [],none⟩,
    ⟨(some 3),.op (.mov (.t 5)),none⟩])
  (.seq (.seq (.reg false [⟨(some 4),.op (.mov (.c (.i .i64 0))),none⟩])
  (.blk 0 (.loop (.seq (.seq (.reg false [⟨(some 6),.op (.mov (.t 4)),none⟩,
    ⟨(some 7),.op (.mov (.t 3)),none⟩,
    ⟨(some 8),.op (.len false (.t 7)),none⟩,
    ⟨(some 9),.op (.bin .lss (.t 6) (.t 8)),none⟩])
  (.cond (.t 9) (.skip) (.exit 0)))
  (.seq (.blk 1 (.seq (.reg false [⟨(some 12),.op (.mov (.t 3)),none⟩,
    ⟨(some 13),.op (.mov (.t 4)),none⟩,
    ⟨(some 14),.op (.iAddrS 2 (.t 12) (.t 13)),none⟩,
    ⟨(some 15),.op (.fAddr 0 (.t 14)),none⟩,
    ⟨(some 16),.op (.load1 (.t 15)),none⟩,
    ⟨(some 17),.op (.mov (.t 0)),none⟩,
    ⟨(some 18),.op (.bin .eql (.t 16) (.t 17)),none⟩])
  (.cond (.t 18) (.seq (.reg false [⟨(some 19),.op (.mov (.t 3)),none⟩,
    ⟨(some 20),.op (.mov (.t 4)),none⟩,
    ⟨(some 21),.op (.iAddrS 2 (.t 19) (.t 20)),none⟩,
    ⟨(some 22),.op (.fAddr 1 (.t 21)),none⟩,
    ⟨(some 23),.op (.load1 (.t 22)),none⟩,
    ⟨(some 2),.op (.mov (.t 23)),none⟩])
  (.ret)) (.skip))))
  (.reg false [⟨(some 10),.op (.mov (.t 4)),none⟩,
    ⟨(some 11),.op (.bin .add (.t 10) (.c (.i .i64 1))),none⟩,
    ⟨(some 4),.op (.mov (.t 11)),none⟩]))))))
  (.seq (.reg false [⟨(some 2),.op (.mov (.c (.nils))),none⟩])
  (.ret))))⟩
theorem qcy {g1:Nat} (hc:qh P f (zM g1) = true) (h1:qb6 P g1) (s:List UInt8) (hs:∀ r ∈ qL,r.1 ≠ s):qg P f [.s s] .nils:=by
  refine qg.mk hc rfl ?_
  simp only [zM,qm,H0,mkT,mkH,trL,vI,simprocAttr]
  simp only [↓vS,vT,shb,shv,qb,qc,cellsOf,wr,qa,simprocAttr]
  refine h1.sc ?_
  have hlen:(qL.flatMap yK).length = 36:=by decide
  have hcl:qC (qL.flatMap yK) = true:=vy fun _=>rfl
  have h18:qL.length = 18:=by decide
  have hget:∀ j (h:j < 18),∃ r ∈ qL,(qL.flatMap yK)[j * 2]? = some (.s r.1):=by
    intro j h
    have hx:qL[j]? = some (qL[j]'(by omega)):=List.getElem?_eq_getElem (by omega)
    exact ⟨_,List.getElem_mem _,k8 (f:=yK) (m:=2) qeK hx (i:=0) (by decide)⟩
  generalize hT:qL.flatMap yK = T at hlen hcl hget
  simp only [↓vS,vT,shb,shv,qb,qc,cellsOf,wr,qa,simprocAttr]
  refine SL.loop (α:=Nat) (fun j=>[(0,.s s),(2,.nils),(3,.fz 18 T),(4,.i .i64 j)]) (fun _=>[]) (fun j=>j ≤ 18) (fun j=>18 - j) 0 [] ?_ ?_ ?_ rfl ?_ ?_
  · simp [vw,hcl]
  · trivial
  · simp
  · exact Nat.zero_le _
  rintro j hj G ih
  simp only [qm,H0,mkT,mkH,trL,vI,simprocAttr]
  by_cases hlt:j < 18
  · have hw:IntKind.wrap .i64 ((j:Int) + 1) = ((j + 1:Nat):Int):=by rw [qE (by omega) (by omega)]; omega
    have hlt':(j:Int) < 18:=by omega
    obtain ⟨r,hr,he⟩:=hget j hlt
    have hne:¬ r.1 = s:=hs r hr
    simp only [↓vS,vT,shb,shv,qb,qc,cellsOf,wr,qa,simprocAttr,hlt,hlt',he,hne,hw]
    refine ih (j + 1) (by omega) (by omega) _ _ (Wk.mk _ _ [] ?_ ?_ ?_ rfl)
    · simp [vw,hcl]
    · trivial
    · simp
  · have hlt':¬ (j:Int) < 18:=by omega
    simp only [↓vS,vT,shb,shv,qb,qc,cellsOf,wr,qa,simprocAttr,hlt']
    simp [vZ]
def xy (f_vestibuleref11_Members f_vestibuleref11_Deep f_vestibuleref11_Put:Nat):IFn:=⟨[.tmp 2,.tmp 3],
  .seq (.reg false [⟨(some 2),.op (.mov (.c (.nils))),none⟩,
    ⟨(some 3),.op (.mov (.c (.i .i64 0))),none⟩])
  (.seq (.seq (.reg false [⟨(some 8),.op (.mov (.t 0)),none⟩,
    ⟨(some 9),.callF f_vestibuleref11_Members [(.t 8)],none⟩,
    ⟨(some 10),.op (.len false (.t 9)),none⟩,
    ⟨(some 11),.op (.bin .eql (.t 10) (.c (.i .i64 0))),none⟩])
  (.cond (.t 11) (.seq (.reg false [⟨(some 2),.op (.mov (.c (.nils))),none⟩,
    ⟨(some 3),.op (.mov (.c (.i .i64 110))),none⟩])
  (.ret)) (.skip)))
  (.seq (.seq (.reg false [⟨(some 12),.op (.mov (.t 0)),none⟩,
    ⟨(some 13),.callF f_vestibuleref11_Deep [(.t 12)],none⟩,
    ⟨(some 14),.op (.bin .gtr (.t 13) (.c (.i .i64 4))),none⟩])
  (.cond (.t 14) (.seq (.reg false [⟨(some 2),.op (.mov (.c (.nils))),none⟩,
    ⟨(some 3),.op (.mov (.c (.i .i64 111))),none⟩])
  (.ret)) (.skip)))
  (.seq (.reg false [⟨(some 4),.op (.mov (.c (.nils))),none⟩])
  (.seq (.reg false [⟨(some 15),.op (.mov (.t 0)),none⟩,
    ⟨(some 16),.op (.buildS 1 [.s []] [(0,1,(.t 15))]),none⟩,
    ⟨(some 5),.op (.mov (.t 16)),none⟩])
  (.seq (.blk 0 (.loop (.seq (.seq (.reg false [⟨(some 17),.op (.mov (.t 5)),none⟩,
    ⟨(some 18),.op (.len false (.t 17)),none⟩,
    ⟨(some 19),.op (.bin .gtr (.t 18) (.c (.i .i64 0))),none⟩])
  (.cond (.t 19) (.skip) (.exit 0)))
  (.blk 1 (.seq (.reg false [⟨(some 20),.op (.mov (.t 5)),none⟩,
    ⟨(some 21),.op (.iAddrS 1 (.t 20) (.c (.i .i64 0))),none⟩,
    ⟨(some 22),.op (.load1 (.t 21)),none⟩,
    ⟨(some 23),.callF f_vestibuleref11_Members [(.t 22)],none⟩,
    ⟨(some 6),.op (.mov (.t 23)),none⟩])
  (.seq (.reg false [⟨(some 24),.op (.mov (.t 5)),none⟩,
    ⟨(some 25),.op (.slcS 1 (.t 24) (some (.c (.i .i64 1))) none none),none⟩,
    ⟨(some 5),.op (.mov (.t 25)),none⟩])
  (.seq (.reg false [⟨(some 7),.op (.mov (.c (.i .i64 0))),none⟩])
  (.blk 2 (.loop (.seq (.seq (.reg false [⟨(some 26),.op (.mov (.t 7)),none⟩,
    ⟨(some 27),.op (.mov (.t 6)),none⟩,
    ⟨(some 28),.op (.len false (.t 27)),none⟩,
    ⟨(some 29),.op (.bin .lss (.t 26) (.t 28)),none⟩])
  (.cond (.t 29) (.skip) (.exit 2)))
  (.seq (.blk 3 (.seq (.reg false [⟨(some 32),.op (.mov (.t 6)),none⟩,
    ⟨(some 33),.op (.mov (.t 7)),none⟩,
    ⟨(some 34),.op (.iAddrS 1 (.t 32) (.t 33)),none⟩,
    ⟨(some 35),.op (.load1 (.t 34)),none⟩,
    ⟨(some 36),.callF f_vestibuleref11_Members [(.t 35)],none⟩,
    ⟨(some 37),.op (.len false (.t 36)),none⟩,
    ⟨(some 38),.op (.bin .gtr (.t 37) (.c (.i .i64 0))),none⟩])
  (.cond (.t 38) (.reg false [⟨(some 39),.op (.mov (.t 5)),none⟩,
    ⟨(some 40),.op (.mov (.t 6)),none⟩,
    ⟨(some 41),.op (.mov (.t 7)),none⟩,
    ⟨(some 42),.op (.iAddrS 1 (.t 40) (.t 41)),none⟩,
    ⟨(some 43),.op (.load1 (.t 42)),none⟩,
    ⟨(some 44),.op (.buildS 1 [.s []] [(0,1,(.t 43))]),none⟩,
    ⟨(some 45),.op (.app 1 16 true (.t 39) (.t 44)),none⟩,
    ⟨(some 5),.op (.mov (.t 45)),none⟩]) (.reg false [⟨(some 46),.op (.mov (.t 4)),none⟩,
    ⟨(some 47),.op (.mov (.t 6)),none⟩,
    ⟨(some 48),.op (.mov (.t 7)),none⟩,
    ⟨(some 49),.op (.iAddrS 1 (.t 47) (.t 48)),none⟩,
    ⟨(some 50),.op (.load1 (.t 49)),none⟩,
    ⟨(some 51),.callF f_vestibuleref11_Put [(.t 46),(.t 50)],none⟩,
    ⟨(some 4),.op (.mov (.t 51)),none⟩]))))
  (.reg false [⟨(some 30),.op (.mov (.t 7)),none⟩,
    ⟨(some 31),.op (.bin .add (.t 30) (.c (.i .i64 1))),none⟩,
    ⟨(some 7),.op (.mov (.t 31)),none⟩]))))))))))))
  (.seq (.reg false [⟨(some 52),.op (.mov (.t 4)),none⟩,
    ⟨(some 2),.op (.mov (.t 52)),none⟩,
    ⟨(some 3),.op (.mov (.c (.i .i64 0))),none⟩])
  (.ret)))))))⟩
theorem qkh {g1 g2 g3 k1:Nat} (hc:qh P f (xy g1 g2 g3) = true) (hm:qh P g1 (zM k1) = true) (ht:qb6 P k1)
    (hrun:∀ r ∈ xZ,qg P f [.s r.1] (.tup [.fz r.2.1.length (rS r.2.1),.i .i64 r.2.2])):qbS qa9 P f:=by
  intro s
  unfold qa9
  cases hf:xZ.find? (fun r=>decide (r.1 = s)) with
  | none =>
    have hn:=qcy hm ht s (fun r hr he=>by
      have h1:r.1 ∈ xZ.map (·.1):=by rw [qdH]; exact List.mem_map.2 ⟨r,hr,rfl⟩
      obtain ⟨x,hx,hxe⟩:=List.mem_map.1 h1
      have:=List.find?_eq_none.1 hf x hx
      simp [hxe,he] at this)
    refine qg.mk hc rfl ?_
    simp only [xy,qm,H0,mkT,mkH,trL,vI,simprocAttr]
    simp only [↓vS,vT,shb,shv,qb,qc,cellsOf,wr,qa,simprocAttr]
    refine hn.sc ?_
    simp only [↓vS,vT,shb,shv,qb,qc,cellsOf,wr,qa,simprocAttr]
    simp [vZ,rS]
  | some r =>
    have hr:=List.mem_of_find?_eq_some hf
    have he:=List.find?_some hf
    have he':r.1 = s:=of_decide_eq_true he
    rw [← he']
    exact hrun r hr
end Go.Kc
end
section
/- What filter.Set answers: its functions. Condition: the functions' texts are these. -/
namespace Go.Kc
variable {P:Program} {f:Nat}
def zF (a:Asg) (n:GNote):GNote:=⟨a.file,a.line,n.err,n.text⟩
theorem qeH {l:List GNote} {i:Nat} {c:GNote} (h:l[i]? = some c):rN l = rN (l.take i) ++ ([.s c.file,.i .i64 c.line,.i .i64 c.err,.s c.text] ++ rN (l.drop (i + 1))):=by
  obtain ⟨hi,rfl⟩:=List.getElem?_eq_some_iff.1 h
  have:l = l.take i ++ ([l[i]] ++ l.drop (i + 1)):=by
    rw [List.singleton_append,← List.drop_eq_getElem_cons hi,List.take_append_drop]
  conv=>lhs; rw [this]
  rw [← qaw,← qaw]; rfl
theorem qjQ {l:List GNote} {i:Nat} {c d:GNote} (h:l[i]? = some c):rN (l.set i d) = rN (l.take i) ++ ([.s d.file,.i .i64 d.line,.i .i64 d.err,.s d.text] ++ rN (l.drop (i + 1))):=by
  obtain ⟨hi,_⟩:=List.getElem?_eq_some_iff.1 h
  rw [List.set_eq_take_append_cons_drop,if_pos hi,← qaw]; rfl
theorem qlR {l:List GNote} {i:Nat} {c:GNote} (h:l[i]? = some c) (s:List UInt8):(rN l).take (i * 4) ++ (.s s :: (rN l).drop (i * 4 + 1)) = rN (l.set i ⟨s,c.line,c.err,c.text⟩):=by
  have hi:i ≤ l.length:=Nat.le_of_lt (List.getElem?_eq_some_iff.1 h).1
  have hl:(rN (l.take i)).length = i * 4:=by rw [kh,List.length_take]; omega
  rw [qjQ h,qeH h,List.take_left' hl,← List.drop_drop,List.drop_left' hl]; rfl
theorem ql3 {l:List GNote} {i:Nat} {c:GNote} (h:l[i]? = some c) (n:Int):(rN l).take (i * 4 + 1) ++ (.i .i64 n :: (rN l).drop (i * 4 + 2)) = rN (l.set i ⟨c.file,n,c.err,c.text⟩):=by
  have hi:i ≤ l.length:=Nat.le_of_lt (List.getElem?_eq_some_iff.1 h).1
  have hl:(rN (l.take i)).length = i * 4:=by rw [kh,List.length_take]; omega
  rw [qjQ h,qeH h,← hl,List.take_length_add_append,List.drop_length_add_append,List.append_assoc]; rfl
def js:IFn:=⟨[.tmp 2],
  .seq (.reg false [⟨(some 2),.op (.mov (.c (.nilp))),none⟩])
  (.seq (.reg false [⟨(some 3),.op (.mov (.t 0)),none⟩,
    ⟨(some 4),.op (.nilChk (.t 3)),none⟩,
    ⟨(some 5),.op (.fAddr 1 (.t 4)),none⟩,
    ⟨(some 2),.op (.mov (.t 5)),none⟩])
  (.ret))⟩
def jr:IFn:=⟨[.tmp 2],
  .seq (.reg false [⟨(some 2),.op (.mov (.c (.nilp))),none⟩])
  (.seq (.reg false [⟨(some 3),.op (.mov (.t 0)),none⟩,
    ⟨(some 4),.op (.nilChk (.t 3)),none⟩,
    ⟨(some 5),.op (.fAddr 4 (.t 4)),none⟩,
    ⟨(some 2),.op (.mov (.t 5)),none⟩])
  (.ret))⟩
end Go.Kc
end
section
/- What the keys of filter do to a policy. Condition: the functions' texts are these. -/
namespace Go.Kc
variable {P:Program} {f:Nat}
def z4 (f_fold_Step:Nat):IFn:=⟨[.tmp 6],
  .seq (.reg false [⟨(some 6),.op (.mov (.c (.nils))),none⟩])
  (.seq (.reg false [⟨(some 10),.op (.load1 (.t 2)),none⟩,
    ⟨(some 11),.op (.mov (.t 0)),none⟩,
    ⟨(some 12),.callV (.t 10) [(.t 11)],none⟩,
    ⟨(some 7),.op (.mov (.t 12)),none⟩])
  (.seq (.reg true [⟨(some 14),.op (.mov (.t 7)),none⟩,
    ⟨(some 15),.op (.nilChk (.t 14)),none⟩,
    ⟨(some 16),.op (.loadN 2 (.t 15)),none⟩,
    ⟨(some 17),.op (.mov (.t 1)),none⟩,
    ⟨(some 18),.op (.load1 (.t 3)),none⟩,
    ⟨(some 19),.callF f_fold_Step [(.t 16),(.t 17),(.t 18)],none⟩,
    ⟨(some 13),.op (.mov (.t 19)),none⟩,
    ⟨(some 20),.op (.ext (.t 13) 0),none⟩,
    ⟨(some 21),.op (.ext (.t 13) 1),none⟩,
    ⟨(some 8),.op (.alloc [.i .u8 0,.nils]),none⟩,
    ⟨none,.op (.store 2 (.t 8) (.t 20)),none⟩,
    ⟨(some 9),.op (.mov (.t 21)),none⟩])
  (.seq (.reg false [⟨(some 22),.op (.mov (.t 7)),none⟩,
    ⟨(some 23),.op (.loadN 2 (.t 8)),none⟩,
    ⟨(some 24),.op (.nilChk (.t 22)),none⟩,
    ⟨none,.op (.store 2 (.t 24) (.t 23)),none⟩])
  (.seq (.reg false [⟨(some 25),.op (.mov (.t 9)),none⟩,
    ⟨(some 6),.op (.mov (.t 25)),none⟩])
  (.ret)))))⟩
def z3 (f_filter_Errno:Nat):IFn:=⟨[.tmp 4],
  .seq (.reg false [⟨(some 4),.op (.mov (.c (.nils))),none⟩])
  (.seq (.reg false [⟨(some 8),.op (.mov (.t 1)),none⟩,
    ⟨(some 9),.callF f_filter_Errno [(.t 8)],none⟩,
    ⟨(some 7),.op (.mov (.t 9)),none⟩,
    ⟨(some 10),.op (.ext (.t 7) 0),none⟩,
    ⟨(some 11),.op (.ext (.t 7) 1),none⟩,
    ⟨(some 5),.op (.mov (.t 10)),none⟩,
    ⟨(some 6),.op (.mov (.t 11)),none⟩])
  (.seq (.seq (.reg false [⟨(some 12),.op (.mov (.t 6)),none⟩,
    ⟨(some 13),.op (.bin .neq (.t 12) (.c (.i .i64 0))),none⟩])
  (.cond (.t 13) (.seq (.reg false [⟨(some 14),.op (.mov (.t 6)),none⟩,
    ⟨(some 15),.op (.mov (.t 1)),none⟩,
    ⟨(some 16),.op (.mov (.t 1)),none⟩,
    ⟨(some 17),.op (.len true (.t 16)),none⟩,
    ⟨(some 18),.op (.min (.t 17) (.c (.i .i64 60))),none⟩,
    ⟨(some 19),.op (.slcStr (.t 15) none (some (.t 18))),none⟩,
    ⟨(some 20),.op (.build [.s [],.i .i64 0,.i .i64 0,.s []] [(2,1,(.t 14)),(3,1,(.t 19))]),none⟩,
    ⟨(some 21),.op (.buildS 1 [.s [],.i .i64 0,.i .i64 0,.s []] [(0,4,(.t 20))]),none⟩,
    ⟨(some 4),.op (.mov (.t 21)),none⟩])
  (.ret)) (.skip)))
  (.seq (.reg false [⟨(some 22),.op (.mov (.t 0)),none⟩,
    ⟨(some 23),.op (.mov (.t 5)),none⟩,
    ⟨(some 24),.op (.nilChk (.t 22)),none⟩,
    ⟨(some 25),.op (.fAddr 3 (.t 24)),none⟩,
    ⟨none,.op (.store 1 (.t 25) (.t 23)),none⟩])
  (.seq (.reg false [⟨(some 4),.op (.mov (.c (.nils))),none⟩])
  (.ret)))))⟩
end Go.Kc
end
section
/- What filter.Set answers. Condition: the functions' texts are these. -/
namespace Go.Kc
variable {P:Program} {f:Nat}
def xl:List AV:=[.nils,.i .u8 0,.nils,.i .u32 0,.i .u8 0,.nils,.nils,.i .u8 0,.i .u64 0,.b false,.b false,.b false,.b false]
theorem qfP {a:Asg} {ns:List GNote} {j:Nat} (h:j < ns.length):((ns.take j).map (zF a) ++ ns.drop j)[j]? = some ns[j]:=by
  rw [List.getElem?_append_right (by simp; omega)]
  simp [Nat.min_eq_left (Nat.le_of_lt h),h]
theorem qf3 {a:Asg} {ns:List GNote} {j:Nat} (h:j < ns.length) (d:GNote) (hd:d = zF a ns[j]):((ns.take j).map (zF a) ++ ns.drop j).set j d = (ns.take (j + 1)).map (zF a) ++ ns.drop (j + 1):=by
  have hl:((ns.take j).map (zF a)).length = j:=by simp; omega
  rw [List.set_append,if_neg (by omega),hl,Nat.sub_self,List.drop_eq_getElem_cons h,List.set_cons_zero,List.take_add_one,List.getElem?_eq_getElem h,hd,List.map_append,List.append_assoc]
  rfl
def qbs (f_filter_copied f_filter_keys:Nat):ICode:=.seq (.seq (.reg false [⟨(some 26),.op (.mov (.t 8)),none⟩,
    ⟨(some 27),.op (.len false (.t 26)),none⟩,
    ⟨(some 28),.op (.mov (.c (.i .i64 0))),none⟩])
  (.blk 0 (.loop (.seq (.reg false [⟨(some 29),.op (.bin .lss (.t 28) (.t 27)),none⟩])
  (.seq (.cond (.t 29) (.skip) (.exit 0))
  (.seq (.blk 1 (.seq (.reg false [⟨(some 30),.op (.mov (.t 28)),none⟩,
    ⟨(some 9),.op (.mov (.t 30)),none⟩])
  (.reg true [⟨(some 31),.op (.mov (.t 8)),none⟩,
    ⟨(some 32),.op (.mov (.t 9)),none⟩,
    ⟨(some 33),.op (.mov (.t 8)),none⟩,
    ⟨(some 34),.op (.mov (.t 9)),none⟩,
    ⟨(some 35),.op (.fAddr 0 (.t 3)),none⟩,
    ⟨(some 36),.op (.load1 (.t 35)),none⟩,
    ⟨(some 37),.op (.fAddr 1 (.t 3)),none⟩,
    ⟨(some 38),.op (.load1 (.t 37)),none⟩,
    ⟨(some 39),.op (.iAddrS 4 (.t 31) (.t 32)),none⟩,
    ⟨(some 40),.op (.fAddr 0 (.t 39)),none⟩,
    ⟨none,.op (.storeD 1 (.t 40) (.t 36) [37]),none⟩,
    ⟨(some 41),.op (.iAddrS 4 (.t 33) (.t 34)),none⟩,
    ⟨(some 42),.op (.fAddr 1 (.t 41)),none⟩,
    ⟨none,.op (.store 1 (.t 42) (.t 38)),none⟩])))
  (.reg false [⟨(some 43),.op (.bin .add (.t 28) (.c (.i .i64 1))),none⟩,
    ⟨(some 28),.op (.mov (.t 43)),none⟩])))))))
  (.seq (.reg false [⟨(some 44),.op (.loadN 13 (.t 2)),none⟩,
    ⟨(some 45),.op (.mov (.t 8)),none⟩,
    ⟨none,.op (.store 13 (.t 4) (.t 44)),none⟩,
    ⟨(some 5),.op (.mov (.t 45)),none⟩])
  (.ret))
def qbD (f_filter_copied f_filter_keys:Nat):ICode:=.seq (.reg false [⟨(some 22),.op (.mov (.t 6)),none⟩,
    ⟨(some 23),.op (.fAddr 4 (.t 3)),none⟩,
    ⟨(some 24),.op (.load1 (.t 23)),none⟩,
    ⟨(some 25),.callV (.t 22) [(.t 2),(.t 24)],none⟩,
    ⟨(some 8),.op (.mov (.t 25)),none⟩])
  (.cut (qbs f_filter_copied f_filter_keys))
def qdg (f_filter_copied f_filter_keys:Nat):IFn:=⟨[.cell 4 13 true,.tmp 5],
  .seq (.reg false [⟨(some 2),.op (.box (.t 0)),none⟩,
    ⟨(some 3),.op (.box (.t 1)),none⟩,
    ⟨(some 4),.op (.alloc [.nils,.i .u8 0,.nils,.i .u32 0,.i .u8 0,.nils,.nils,.i .u8 0,.i .u64 0,.b false,.b false,.b false,.b false]),none⟩,
    ⟨(some 5),.op (.mov (.c (.nils))),none⟩])
  (.seq (.reg false [⟨(some 10),.op (.loadN 13 (.t 2)),none⟩,
    ⟨(some 11),.callF f_filter_copied [(.t 10)],none⟩,
    ⟨none,.op (.store 13 (.t 2) (.t 11)),none⟩])
  (.seq (.reg true [⟨(some 13),.callF f_filter_keys [],none⟩,
    ⟨(some 14),.op (.fAddr 3 (.t 3)),none⟩,
    ⟨(some 15),.op (.load1 (.t 14)),none⟩,
    ⟨(some 16),.op (.lookM none true (.nilf) (.t 13) (.t 15)),none⟩,
    ⟨(some 12),.op (.mov (.t 16)),none⟩,
    ⟨(some 17),.op (.ext (.t 12) 0),none⟩,
    ⟨(some 18),.op (.ext (.t 12) 1),none⟩,
    ⟨(some 6),.op (.mov (.t 17)),none⟩,
    ⟨(some 7),.op (.mov (.t 18)),none⟩])
  (.seq (.seq (.reg false [⟨(some 19),.op (.mov (.t 7)),none⟩,
    ⟨(some 20),.op (.un .not (.t 19)),none⟩])
  (.cond (.t 20) (.seq (.reg false [⟨(some 21),.op (.loadN 13 (.t 2)),none⟩,
    ⟨none,.op (.store 13 (.t 4) (.t 21)),none⟩,
    ⟨(some 5),.op (.mov (.c (.nils))),none⟩])
  (.ret)) (.skip)))
  (.cut (qbD f_filter_copied f_filter_keys)))))⟩
noncomputable def xQ (E:List UInt8 → List (List UInt8) × Int) (p:Pol) (k v:List UInt8):Pol × List GNote :=
  if k = Qt then ({ p with filter:=(qR E p.filter v true).1 },(qR E p.filter v true).2)
  else if k = qhP then ({ p with log:=(qR E p.log v false).1 },(qR E p.log v false).2)
  else if k = qfH then (if (jG v).2 = 0 then ({ p with deny:=(jG v).1 },[]) else (p,[zk (jG v).2 v]))
  else (p,[])
end Go.Kc
end
section
/- What fold.Put and fold.Take answer, in rows of one's own. Condition: the functions' texts are these. -/
namespace Go.Kc
variable {P:Program} {f:Nat}
theorem qbb:∀ {l:List GCall},jO (rC l) = true
  | []=>rfl
  | c :: l=>by rw [kE]; simp [jO,w6,qbb (l:=l)]
theorem qkB {g1 g2 g3 g4:Nat} (hc:qh P f (yl g1 g2 g3 g4) = true) (h1:qmF P g1) (h2:qkR P g2) (h3:∀ s c,qg P g3 [.agg (j7 c),.pf [.s s] 0] (.b (decide (c.name = s)))) (h4:qa6 P g4) (l:GList) (s:List UInt8) (hl:l.calls.length ≤ 100000) :
    ku P f [.agg (qk l),.s s] (.agg [.i .u8 (jF l s).mode,.own 0 (jF l s).calls.length]) [.cells 2 true true (rC (jF l s).calls)]:=by
  refine ku.mk hc rfl (by simp [qdF,qbb]) ?_
  simp only [yl,qk,qm,H0,mkT,mkH,trL,vI,simprocAttr]
  simp only [↓vS,vT,shb,shv,qb,qc,cellsOf,wr,qa,simprocAttr]
  refine (h1 l hl).sc ?_
  simp only [vJ,shb,shv,qb,simprocAttr]
  simp only [↓vS,vT,shb,shv,qb,qc,cellsOf,wr,qa,simprocAttr]
  refine S.weak (Wk.mk [(2,.ptr 0 0),(3,.ptr 1 0),(4,.ptr 2 0)] [.cells 0 true false [.i .u8 l.mode,.own 3 l.calls.length],.cells 0 true false [.s s],.cells 0 true false [.i .u8 0,.nils],.cells 2 true true (rC l.calls)] [0,1,2,3] ?_ ?_ ?_ rfl) ?_
  · simp [vw]
  · simp [vw,qe,qd,qY qd]
    try decide
  · simp [vw]
  refine S.weak (Wk.freeze 1 0 0 rfl rfl (Nat.zero_le _) (by simp)) ?_
  refine qy ?_
  simp only [yI,qm,H0,mkT,mkH,trL,vI,simprocAttr,fzv,wI,fzB,List.map_cons,List.map_nil,List.set_cons_zero,List.set_cons_succ,if_true,kq qd]
  simp only [↓vS,vT,shb,shv,qb,qc,cellsOf,wr,qa,simprocAttr]
  refine (h2 l hl).lend (vs':=[.agg (qk l)]) ?_ rfl ?_
  · simp [vZ,vP,Tr.get_set,qk,qF qd]
    intro h0; rw [h0]; rfl
  cases hM:zA l with
  | false =>
    have hw:jF l s = l:=by unfold jF; rw [hM]; rfl
    simp only [↓vS,vT,shb,shv,qb,qc,cellsOf,wr,qa,simprocAttr]
    rw [hw]
    intro _
    refine ⟨[3],?_⟩
    simp [vw,qe,qd]
  | true =>
    have hw:jF l s = ⟨l.mode,l.calls.filter fun c=>!decide (c.name = s)⟩:=by unfold jF; rw [hM]; rfl
    simp only [↓vS,vT,shb,shv,qb,qc,cellsOf,wr,qa,simprocAttr]
    refine (h4 (fun c=>decide (c.name = s)) g3 [] [.pf [.s s] 0] l.calls rfl rfl (by simp only [qi]; omega) (fun c _=>h3 s c)).sc (vs:=[.own 0 l.calls.length,.fn g3 [] [.pf [.s s] 0]]) [3] (Lent.of (by decide) ?_) ?_
    · simp [vL,shb,shv,qb,zZ,bnd,zG,rnv,gAt,vw,qX qd,qv qd,qY qd]
    simp only [vK,xa,rnb,zG,rnv,gAt,simprocAttr,qv qd]
    simp only [↓vS,vT,shb,shv,qb,qc,cellsOf,wr,qa,simprocAttr]
    rw [hw]
    intro _
    refine ⟨[3],?_⟩
    simp [vw,qe,qd]
theorem qlg {g1 g2 g3 g4 g5:Nat} (hc:qh P f (Qa g1 g2 g3 g4 g5) = true) (h1:qmF P g1) (h2:qkR P g2) (h3:qrb P g3) (h4:∀ (c:GCall) (s:List UInt8),qg P g4 [.agg (j7 c),.s s] (.i .i64 (zz c.name s))) (h5:qgM 2 24 P g5) (l:GList) (s:List UInt8) (n:Int) (hl:l.calls.length ≤ 100000) :
    ku P f [.agg (qk l),.s s,.i .u32 n] (.agg [.i .u8 (wZ l s n).mode,.own 0 (wZ l s n).calls.length]) [.cells 2 true true (rC (wZ l s n).calls)]:=by
  refine ku.mk hc rfl (by simp [qdF,qbb]) ?_
  simp only [Qa,qk,qm,H0,mkT,mkH,trL,vI,simprocAttr]
  simp only [↓vS,vT,shb,shv,qb,qc,cellsOf,wr,qa,simprocAttr]
  refine (h1 l hl).sc ?_
  simp only [vJ,shb,shv,qb,simprocAttr]
  simp only [↓vS,vT,shb,shv,qb,qc,cellsOf,wr,qa,simprocAttr]
  refine S.weak (Wk.mk [(1,.s s),(2,.i .u32 n),(3,.ptr 0 0),(6,.ptr 1 0)] [.cells 0 true false [.i .u8 l.mode,.own 2 l.calls.length],.cells 0 true false [.i .u8 0,.nils],.cells 2 true true (rC l.calls)] [0,1,2] ?_ ?_ ?_ rfl) (qy ?_)
  · simp [vw]
  · simp [vw,qe,qd,qY qd]
    try decide
  · simp [vw]
  simp only [yN,qm,H0,mkT,mkH,trL,vI,simprocAttr]
  simp only [↓vS,vT,shb,shv,qb,qc,cellsOf,wr,qa,simprocAttr]
  refine (h2 l hl).lend (vs':=[.agg (qk l)]) ?_ rfl ?_
  · simp [vZ,vP,Tr.get_set,qk,qF qd]
    intro h0; rw [h0]; rfl
  cases hM:zA l with
  | false =>
    have hw:wZ l s n = l:=by unfold wZ; rw [hM]; rfl
    simp only [↓vS,vT,shb,shv,qb,qc,cellsOf,wr,qa,simprocAttr]
    rw [hw]
    intro _
    refine ⟨[2],?_⟩
    simp [vw,qe,qd]
  | true =>
    have hw:wZ l s n = ⟨l.mode,qaS l.calls s n⟩:=by unfold wZ; rw [hM]; rfl
    have hb:=qpg l.calls (fun c=>zz c.name s)
    simp only [↓vS,vT,shb,shv,qb,qc,cellsOf,wr,qa,simprocAttr]
    refine (h3 l.calls s g4 (fun c=>zz c.name s) (by simp only [qi]; omega) (fun c _=>h4 c s)).lend (vs':=[.fz l.calls.length (rC l.calls),.s s,.fn g4 [] []]) ?_ rfl ?_
    · simp [vZ,vP,Tr.get_set,qF qd]
      intro h0; rw [h0]; rfl
    rw [hw]
    cases hfd:(l.calls[bsC l.calls (fun c=>zz c.name s)]?).elim false (fun c=>decide (zz c.name s = 0)) with
    | true =>
      have hp:qaS l.calls s n = l.calls.set (bsC l.calls (fun c=>zz c.name s)) ⟨s,n⟩:=if_pos hfd
      have hlt:bsC l.calls (fun c=>zz c.name s) < l.calls.length:=by
        rcases Nat.lt_or_ge (bsC l.calls (fun c=>zz c.name s)) l.calls.length with h | h
        · exact h
        · rw [List.getElem?_eq_none h] at hfd; cases hfd
      have hbd:=kp hlt
      have hset:rC (l.calls.set (bsC l.calls (fun c=>zz c.name s)) ⟨s,n⟩) = (rC l.calls).take (bsC l.calls (fun c=>zz c.name s) * 2) ++ (AV.s s :: AV.i .u32 n :: (rC l.calls).drop (bsC l.calls (fun c=>zz c.name s) * 2 + 2)):=by
        have e2:bsC l.calls (fun c=>zz c.name s) * 2 + 2 = (bsC l.calls (fun c=>zz c.name s) + 1) * 2:=by omega
        rw [e2,qaO,qca,List.set_eq_take_append_cons_drop,if_pos hlt,← yR,kE] <;> rfl
      simp only [↓vS,vT,shb,shv,qb,qc,cellsOf,wr,qa,simprocAttr,hlt,hbd]
      rw [hp]
      simp only [← hset]
      intro _
      refine ⟨[2],?_⟩
      simp [vw,qe,qd]
    | false =>
      have hp:qaS l.calls s n = l.calls.take (bsC l.calls (fun c=>zz c.name s)) ++ ⟨s,n⟩ :: l.calls.drop (bsC l.calls (fun c=>zz c.name s)):=if_neg (by rw [hfd]; decide)
      simp only [↓vS,vT,shb,shv,qb,qc,cellsOf,wr,qa,simprocAttr]
      refine (h5 l.calls.length (bsC l.calls (fun c=>zz c.name s)) (rC l.calls) [.s s,.i .u32 n] (by rw [xL]) rfl qd rfl qdD rfl hb (by simp only [qi]; omega) (by simp only [qi]; omega)).sc (vs:=[.own 0 l.calls.length,.i .i64 (bsC l.calls (fun c=>zz c.name s):Int),.sl 1 0 1 1 false]) [2,4] (Lent.of (by decide) ?_) ?_
      · simp [vL,shb,shv,qb,zZ,bnd,zG,rnv,gAt,vw,qX qd,qv qd]
      have hT:rC (qaS l.calls s n) = (rC l.calls).take (bsC l.calls (fun c=>zz c.name s) * 2) ++ ([.s s,.i .u32 n] ++ (rC l.calls).drop (bsC l.calls (fun c=>zz c.name s) * 2)):=by
        rw [hp,← yR,kE,qaO,qca]; rfl
      have hL:(qaS l.calls s n).length = l.calls.length + 1:=by
        rw [hp]; simp; omega
      simp only [← hT]
      simp only [vK,xa,rnb,zG,rnv,gAt,simprocAttr,qv qd]
      simp only [↓vS,vT,shb,shv,qb,qc,cellsOf,wr,qa,simprocAttr]
      intro _
      refine ⟨[5],?_⟩
      simp [vw,qe,qd,hL]
end Go.Kc
end
section
/- What fold.Step answers, its list in a row of its own. Condition: the functions' texts are these. -/
namespace Go.Kc
variable {P:Program} {f:Nat}
def oL (l:GList):List AV:=[.i .u8 l.mode,.own 4 l.calls.length]
def qir (P:Program) (f:Nat):Prop:=∀ (l:GList) (s:List UInt8) (n:Int),l.calls.length ≤ 100000 → ku P f [.agg (qk l),.s s,.i .u32 n] (.agg [.i .u8 (wZ l s n).mode,.own 0 (wZ l s n).calls.length]) [.cells 2 true true (rC (wZ l s n).calls)]
def qfx (P:Program) (f:Nat):Prop:=∀ (l:GList) (s:List UInt8),l.calls.length ≤ 100000 → ku P f [.agg (qk l),.s s] (.agg [.i .u8 (jF l s).mode,.own 0 (jF l s).calls.length]) [.cells 2 true true (rC (jF l s).calls)]
def qoy (E:List UInt8 → List (List UInt8) × Int) (P:Program) (f:Nat):Prop:=∀ (l:GList) (v:List UInt8) (fl:Bool),l.calls.length ≤ 100000 → v.length ≤ 1000 → 0 ≤ l.mode →
  Own P f [.agg (qk l),.s v,.b fl] (.tup [.agg [.i .u8 (qR E l v fl).1.mode,.own 0 (qR E l v fl).1.calls.length],.own 1 (qR E l v fl).2.length]) [.cells 2 true true (rC (qR E l v fl).1.calls),.cells 4 true true (rN (qR E l v fl).2)]
theorem xR {g1 g2 g3 g4 g5 g6 g7 g8 g9 g10:Nat} (h1:qir P g9) (h2:qfx P g10) (fl t ins:Bool) (way:Int) (W N:List (List UInt8)) (j:Nat) (l:GList) (wd:Word) (w:List UInt8) (ns:List GNote) (hW:W.length ≤ 1000) (hN:N.length ≤ 1000)
    (hl:zA l = true) (hm:l.mode ≠ 0) (hk:∀ n ∈ N,zn n = true) (ha:wK wd.act = true) (Q:X → Tr AV → Hp → Prop)
    (hQ:∀ t' h',Wk 0 t' h' (mkT [(2,.b fl),(3,.ptr 0 0),(6,.ptr 1 0),(9,.b t),(10,.i .i64 way),(11,.ptr 2 0),(46,.fz W.length (rS W)),(47,.i .i64 W.length),(48,.i .i64 j)])
      (mkH 0 [.cells 0 true false (oL (N.foldl (zh ins wd.act) l)),.cells 0 true false [.i .u8 0,.nils],.cells 0 true false [.own 3 ns.length],.cells 4 true true (rN ns),.cells 2 true true (rC (N.foldl (zh ins wd.act) l).calls)]) → Q .normal t' h') :
    S P 0 (wO g1 g2 g3 g4 g5 g6 g7 g8 g9 g10) Q
      (mkT [(2,.b fl),(3,.ptr 0 0),(6,.ptr 1 0),(9,.b t),(10,.i .i64 way),(11,.ptr 2 0),(46,.fz W.length (rS W)),(47,.i .i64 W.length),(48,.i .i64 j),(15,.ptr 5 0),(17,.fz N.length (rS N)),(18,.b ins)])
      (mkH 0 [.cells 0 true false (oL l),.cells 0 true false [.i .u8 0,.nils],.cells 0 true false [.own 3 ns.length],.cells 4 true true (rN ns),.cells 2 true true (rC l.calls),.cells 0 true false (qK wd)]):=by
  refine qy ?_
  simp only [wO,oL,qm,H0,mkT,mkH,trL,vI,simprocAttr]
  simp only [↓vS,vT,shb,shv,qb,qc,cellsOf,wr,qa,Nat.reduceEqDiff,↓reduceIte,Nat.reduceAdd,Nat.reduceMul,Nat.reduceSub,Nat.reduceLeDiff,Nat.reduceLT,Int.reduceLE,Int.reduceLT,Int.reduceEq,Int.reduceToNat]
  refine SL.loop (α:=Nat) (fun k=>[(2,.b fl),(3,.ptr 0 0),(6,.ptr 1 0),(9,.b t),(10,.i .i64 way),(11,.ptr 2 0),(46,.fz W.length (rS W)),(47,.i .i64 W.length),(48,.i .i64 j),(15,.ptr 5 0),(18,.b ins),(95,.fz N.length (rS N)),(96,.i .i64 N.length),(97,.i .i64 k)])
    (fun k=>[.cells 0 true false (oL ((N.take k).foldl (zh ins wd.act) l)),.cells 0 true false [.i .u8 0,.nils],.cells 0 true false [.own 3 ns.length],.cells 4 true true (rN ns),.cells 2 true true (rC ((N.take k).foldl (zh ins wd.act) l).calls),.cells 0 true false (qK wd)])
    (fun k=>k ≤ N.length) (fun k=>N.length - k) 0 [0,1,2,3,4,5] ?_ ?_ ?_ rfl ?_ ?_
  · simp [vw]
  · simp [vw,oL,qe,qj,qd,qK]
  · simp
  · exact Nat.zero_le _
  rintro k hk1 G ih
  have hmay:=vH (ins:=ins) ha hl hm (fun n hn=>hk n (List.mem_of_mem_take (i:=k) hn))
  have hlen:=yn hmay
  generalize hr:(N.take k).foldl (zh ins wd.act) l = r at hmay hlen ih ⊢
  simp only [qm,H0,mkT,mkH,trL,vI,simprocAttr]
  by_cases hlt:k < N.length
  · have hx:(rS N)[k]? = some (.s N[k]):=by rw [qdV,List.getElem?_eq_getElem hlt]; rfl
    have hw:IntKind.wrap .i64 ((k:Int) + 1) = ((k + 1:Nat):Int):=by rw [qE (by omega) (by omega)]; omega
    have hnext:(N.take (k + 1)).foldl (zh ins wd.act) l = zh ins wd.act r N[k]:=by
      rw [List.take_add_one,List.getElem?_eq_getElem hlt,List.foldl_append,hr]; rfl
    have ih2:=ih (k + 1)
    rw [hnext] at ih2
    simp only [oL,qK]
    cases ins with
    | true =>
      simp only [↓vS,vT,shb,shv,qb,qc,cellsOf,wr,qa,Nat.reduceEqDiff,↓reduceIte,Nat.reduceAdd,Nat.reduceMul,Nat.reduceSub,Nat.reduceLeDiff,Nat.reduceLT,Int.reduceLE,Int.reduceLT,Int.reduceEq,Int.reduceToNat,hlt,hx,Nat.mul_one]
      refine (h1 r N[k] wd.act (by omega)).sc ?_ ?_
      · simp [vZ,vP,Tr.get_set,qk,qF qd]
        intro h0; rw [h0]; rfl
      simp only [vJ,shb,shv,qb,simprocAttr,qY qd]
      simp only [↓vS,vT,shb,shv,qb,qc,cellsOf,wr,qa,Nat.reduceEqDiff,↓reduceIte,Nat.reduceAdd,Nat.reduceMul,Nat.reduceSub,Nat.reduceLeDiff,Nat.reduceLT,Int.reduceLE,Int.reduceLT,Int.reduceEq,Int.reduceToNat,hw]
      refine ih2 (by omega) (by omega) _ _ (Wk.mk _ _ [0,1,2,3,6,5] ?_ ?_ ?_ rfl)
      · simp [vw]
      · simp [vw,oL,qe,qj,qd,qK,zh]
      · simp
    | false =>
      simp only [↓vS,vT,shb,shv,qb,qc,cellsOf,wr,qa,Nat.reduceEqDiff,↓reduceIte,Nat.reduceAdd,Nat.reduceMul,Nat.reduceSub,Nat.reduceLeDiff,Nat.reduceLT,Int.reduceLE,Int.reduceLT,Int.reduceEq,Int.reduceToNat,hlt,hx,Nat.mul_one]
      refine (h2 r N[k] (by omega)).sc ?_ ?_
      · simp [vZ,vP,Tr.get_set,qk,qF qd]
        intro h0; rw [h0]; rfl
      simp only [vJ,shb,shv,qb,simprocAttr,qY qd]
      simp only [↓vS,vT,shb,shv,qb,qc,cellsOf,wr,qa,Nat.reduceEqDiff,↓reduceIte,Nat.reduceAdd,Nat.reduceMul,Nat.reduceSub,Nat.reduceLeDiff,Nat.reduceLT,Int.reduceLE,Int.reduceLT,Int.reduceEq,Int.reduceToNat,hw]
      refine ih2 (by omega) (by omega) _ _ (Wk.mk _ _ [0,1,2,3,6,5] ?_ ?_ ?_ rfl)
      · simp [vw]
      · simp [vw,oL,qe,qj,qd,qK,zh]
      · simp
  · have hkl:N.take k = N:=List.take_of_length_le (by omega)
    rw [hkl] at hr
    rw [hr] at hQ
    simp only [↓vS,vT,shb,shv,qb,qc,cellsOf,wr,qa,Nat.reduceEqDiff,↓reduceIte,Nat.reduceAdd,Nat.reduceMul,Nat.reduceSub,Nat.reduceLeDiff,Nat.reduceLT,Int.reduceLE,Int.reduceLT,Int.reduceEq,Int.reduceToNat,hlt]
    refine hQ _ _ (Wk.mk _ _ [0,1,2,3,4] ?_ ?_ ?_ rfl)
    · simp [vw]
    · simp [vw,oL,qe,qj,qd]
    · simp
theorem xh {g1 g2 g3 g4 g5 g6 g7 g8 g9 g10:Nat} (fl t:Bool) (way:Int) (W:List (List UInt8)) (j:Nat) (hj:j < 100000) (l:GList) (ns:List GNote) (Q:X → Tr AV → Hp → Prop)
    (hQ:∀ t' h',Wk 0 t' h' (mkT [(2,.b fl),(3,.ptr 0 0),(6,.ptr 1 0),(9,.b t),(10,.i .i64 way),(11,.ptr 2 0),(46,.fz W.length (rS W)),(47,.i .i64 W.length),(48,.i .i64 (j + 1:Nat))])
      (mkH 0 [.cells 0 true false (oL l),.cells 0 true false [.i .u8 0,.nils],.cells 0 true false [.own 3 ns.length],.cells 4 true true (rN ns),.cells 2 true true (rC l.calls)]) → Q .normal t' h') :
    S P 0 (ww g1 g2 g3 g4 g5 g6 g7 g8 g9 g10) Q
      (mkT [(2,.b fl),(3,.ptr 0 0),(6,.ptr 1 0),(9,.b t),(10,.i .i64 way),(11,.ptr 2 0),(46,.fz W.length (rS W)),(47,.i .i64 W.length),(48,.i .i64 j)])
      (mkH 0 [.cells 0 true false (oL l),.cells 0 true false [.i .u8 0,.nils],.cells 0 true false [.own 3 ns.length],.cells 4 true true (rN ns),.cells 2 true true (rC l.calls)]):=by
  have hw:IntKind.wrap .i64 ((j:Int) + 1) = ((j + 1:Nat):Int):=by rw [qE (by omega) (by omega)]; omega
  refine qy ?_
  simp only [ww,oL,qm,H0,mkT,mkH,trL,vI,simprocAttr]
  simp only [↓vS,vT,shb,shv,qb,qc,cellsOf,wr,qa,Nat.reduceEqDiff,↓reduceIte,Nat.reduceAdd,Nat.reduceMul,Nat.reduceSub,Nat.reduceLeDiff,Nat.reduceLT,Int.reduceLE,Int.reduceLT,Int.reduceEq,Int.reduceToNat,hw]
  refine hQ _ _ (Wk.mk _ _ [0,1,2,3,4] ?_ ?_ ?_ rfl)
  · simp [vw]
  · simp [vw,oL,qe,qj,qd]
  · simp
set_option maxHeartbeats 2000000 in
theorem qa4 {g1 g2 g3 g4 g5 g6 g7 g8 g9 g10:Nat} {E:List UInt8 → List (List UInt8) × Int} (hE:ki E) (h3:qeh P g3) (h5:qix P g5) (h6:qcB P g6) (h7:qbS (zB E) P g7) (h8:qq0 P g8) (h9:qir P g9) (h10:qfx P g10)
    (fl t:Bool) (v:List UInt8) (hv:v.length ≤ 1000) (l:GList) (hl:zA l = true) (hm:l.mode = 1 ∨ l.mode = 2) :
    S P 0 (vc g1 g2 g3 g4 g5 g6 g7 g8 g9 g10) (kc [.cell 6 2 true,.tmp 7] (qhC (.tup [.agg [.i .u8 ((qt v).foldl (qH E fl t) (l,[])).1.mode,.own 0 ((qt v).foldl (qH E fl t) (l,[])).1.calls.length],.own 1 ((qt v).foldl (qH E fl t) (l,[])).2.length]) [.cells 2 true true (rC ((qt v).foldl (qH E fl t) (l,[])).1.calls),.cells 4 true true (rN ((qt v).foldl (qH E fl t) (l,[])).2)]))
      (mkT [(2,.b fl),(3,.ptr 0 0),(6,.ptr 1 0),(8,.s v),(9,.b t),(10,.i .i64 (jp t)),(11,.ptr 2 0)])
      (mkH 0 [.cells 0 true false (oL l),.cells 0 true false [.i .u8 0,.nils],.cells 0 true false [.own 3 0],.cells 4 true true [],.cells 2 true true (rC l.calls)]):=by
  have hwl:=qbl v
  refine qy ?_
  simp only [vc,oL,qm,H0,mkT,mkH,trL,vI,simprocAttr]
  simp only [↓vS,vT,shb,shv,qb,qc,cellsOf,wr,qa,Nat.reduceEqDiff,↓reduceIte,Nat.reduceAdd,Nat.reduceMul,Nat.reduceSub,Nat.reduceLeDiff,Nat.reduceLT,Int.reduceLE,Int.reduceLT,Int.reduceEq,Int.reduceToNat]
  refine (h3 v (by omega)).sc ?_
  simp only [↓vS,vT,shb,shv,qb,qc,cellsOf,wr,qa,Nat.reduceEqDiff,↓reduceIte,Nat.reduceAdd,Nat.reduceMul,Nat.reduceSub,Nat.reduceLeDiff,Nat.reduceLT,Int.reduceLE,Int.reduceLT,Int.reduceEq,Int.reduceToNat]
  refine SL.loop (α:=Nat) (fun j=>[(2,.b fl),(3,.ptr 0 0),(6,.ptr 1 0),(9,.b t),(10,.i .i64 (jp t)),(11,.ptr 2 0),(46,.fz (qt v).length (rS (qt v))),(47,.i .i64 (qt v).length),(48,.i .i64 j)])
    (fun j=>[.cells 0 true false (oL (((qt v).take j).foldl (qH E fl t) (l,[])).1),.cells 0 true false [.i .u8 0,.nils],.cells 0 true false [.own 3 (((qt v).take j).foldl (qH E fl t) (l,[])).2.length],.cells 4 true true (rN (((qt v).take j).foldl (qH E fl t) (l,[])).2),.cells 2 true true (rC (((qt v).take j).foldl (qH E fl t) (l,[])).1.calls)])
    (fun j=>j ≤ (qt v).length) (fun j=>(qt v).length - j) 0 [0,1,2,3,4] ?_ ?_ ?_ rfl ?_ ?_
  · simp [vw,rS]
  · simp [vw,oL,qe,qj,qd,qbz]
  · simp
  · exact Nat.zero_le _
  rintro j hj G ih
  obtain ⟨k1,k2,k3⟩:=qai hE fl t ((qt v).take j) (l,[]) hl (by dsimp only; omega)
  have k4:=yn k1
  dsimp only at k2
  simp only [List.length_take,List.length_nil,Nat.zero_add] at k3
  generalize hr:((qt v).take j).foldl (qH E fl t) (l,[]) = r at k1 k2 k3 k4 ih ⊢
  simp only [qm,H0,mkT,mkH,trL,vI,simprocAttr]
  by_cases hlt:j < (qt v).length
  · have hx : (rS (qt v))[j]? = some (.s (qt v)[j]):=by rw [qdV,List.getElem?_eq_getElem hlt]; rfl
    have hwj:IntKind.wrap .i64 ((j:Int) + 1) = ((j + 1:Nat):Int):=by rw [qE (by omega) (by omega)]; omega
    have hnext:((qt v).take (j + 1)).foldl (qH E fl t) (l,[]) = qH E fl t r (qt v)[j]:=by
      rw [List.take_add_one,List.getElem?_eq_getElem hlt,List.foldl_append,hr]; rfl
    have ih2:=ih (j + 1)
    rw [hnext] at ih2
    have hwd:=qck (List.getElem_mem hlt)
    generalize (qt v)[j] = w at hx hnext hwd ih2
    simp only [oL]
    simp only [↓vS,vT,shb,shv,qb,qc,cellsOf,wr,qa,Nat.reduceEqDiff,↓reduceIte,Nat.reduceAdd,Nat.reduceMul,Nat.reduceSub,Nat.reduceLeDiff,Nat.reduceLT,Int.reduceLE,Int.reduceLT,Int.reduceEq,Int.reduceToNat,hlt,hx,Nat.mul_one]
    refine (h6 w (by omega)).sc ?_
    simp only [↓vS,vT,shb,shv,qb,qc,cellsOf,wr,qa,Nat.reduceEqDiff,↓reduceIte,Nat.reduceAdd,Nat.reduceMul,Nat.reduceSub,Nat.reduceLeDiff,Nat.reduceLT,Int.reduceLE,Int.reduceLT,Int.reduceEq,Int.reduceToNat,qK]
    by_cases e1:(ql w).2 = 0
    · simp only [↓vS,vT,shb,shv,qb,qc,cellsOf,wr,qa,Nat.reduceEqDiff,↓reduceIte,Nat.reduceAdd,Nat.reduceMul,Nat.reduceSub,Nat.reduceLeDiff,Nat.reduceLT,Int.reduceLE,Int.reduceLT,Int.reduceEq,Int.reduceToNat,e1]
      refine (h7 (ql w).1.name).sc ?_
      by_cases e2:(zB E (ql w).1.name).2 = 0
      · have hk := qb1 hE (ql w).1.name
        simp only [↓vS,vT,shb,shv,qb,qc,cellsOf,wr,qa,Nat.reduceEqDiff,↓reduceIte,Nat.reduceAdd,Nat.reduceMul,Nat.reduceSub,Nat.reduceLeDiff,Nat.reduceLT,Int.reduceLE,Int.reduceLT,Int.reduceEq,Int.reduceToNat,e2]
        refine zU ?_
        simp only [↓vS,vT,shb,shv,qb,qc,cellsOf,wr,qa,Nat.reduceEqDiff,↓reduceIte,Nat.reduceAdd,Nat.reduceMul,Nat.reduceSub,Nat.reduceLeDiff,Nat.reduceLT,Int.reduceLE,Int.reduceLT,Int.reduceEq,Int.reduceToNat]
        refine h8.pc ?_
        have hu1:IntKind.wrap .u8 (1 - 1) = 0:=by decide
        have hu2:IntKind.wrap .u8 (2 - 1) = 1:=by decide
        have hmode:r.1.mode = 1 ∨ r.1.mode = 2:=by rw [k2]; exact hm
        cases t with
        | true =>
          have hway:jp true = 1:=rfl
          rcases hmode with hm1 | hm1
          · have hin:decide (r.1.mode - 1 = if true = true then 1 else 0) = false:=by rw [hm1]; rfl
            simp only [↓vS,vT,shb,shv,qb,qc,cellsOf,wr,qa,Nat.reduceEqDiff,↓reduceIte,Nat.reduceAdd,Nat.reduceMul,Nat.reduceSub,Nat.reduceLeDiff,Nat.reduceLT,Int.reduceLE,Int.reduceLT,Int.reduceEq,Int.reduceToNat,hm1,hway,hu1,hu2,List.drop_succ_cons,List.drop_zero,List.take_succ_cons,List.take_zero,List.getElem?_cons_zero,List.getElem?_cons_succ]
            cases hh:(ql w).1.has with
            | false =>
              have hs:qH E fl true r w = ((zB E (ql w).1.name).1.foldl (zh false (ql w).1.act) r.1,r.2):=by
                unfold qH; rw [if_neg (by simp [e1]),if_neg (by simp [e2]),if_pos hh,hin]
              rw [hs] at ih2
              simp only [↓vS,vT,shb,shv,qb,qc,cellsOf,wr,qa,Nat.reduceEqDiff,↓reduceIte,Nat.reduceAdd,Nat.reduceMul,Nat.reduceSub,Nat.reduceLeDiff,Nat.reduceLT,Int.reduceLE,Int.reduceLT,Int.reduceEq,Int.reduceToNat]
              refine S.weak (Wk.mk _ _ [0,1,2,3,4,6] ?_ ?_ ?_ rfl) (xR h9 h10 fl true false (jp true) (qt v) (zB E (ql w).1.name).1 j r.1 (ql w).1 w r.2 (by omega) (by omega) k1 (by omega) hk.1 (z2 w) _ ?_)
              · simp [vw,hh,hm1]
              · simp [vw,oL,qe,qj,qd,qK,hh,hm1]
              · simp
              · intro t' h' hw
                simp only [↓vS,vT,shb,shv,qb,qc,cellsOf,wr,qa,Nat.reduceEqDiff,↓reduceIte,Nat.reduceAdd,Nat.reduceMul,Nat.reduceSub,Nat.reduceLeDiff,Nat.reduceLT,Int.reduceLE,Int.reduceLT,Int.reduceEq,Int.reduceToNat]
                exact S.weak hw (xh fl true (jp true) (qt v) j (by omega) _ _ _ (fun t'' h'' hw'=>ih2 (by omega) (by omega) t'' h'' hw'))
            | true =>
              cases fl with
              | false =>
                have hs:qH E false true r w = ((zB E (ql w).1.name).1.foldl (zh false 0) r.1,r.2 ++ [zk 161 w]):=by
                  unfold qH; rw [if_neg (by simp [e1]),if_neg (by simp [e2]),if_neg (by simp [hh]),if_pos (by decide),hin]
                rw [hs] at ih2
                simp only [↓vS,vT,shb,shv,qb,qc,cellsOf,wr,qa,Nat.reduceEqDiff,↓reduceIte,Nat.reduceAdd,Nat.reduceMul,Nat.reduceSub,Nat.reduceLeDiff,Nat.reduceLT,Int.reduceLE,Int.reduceLT,Int.reduceEq,Int.reduceToNat]
                refine (h5 r.2 161 w (by simp only [qi]; omega)).sc (vs:=[.i .i64 161,.ptr 0 0,.ptr 1 0]) [2,5,3] (Lent.of (by decide) ?_) ?_
                · simp [vL,shb,shv,qb,zZ,bnd,zG,rnv,gAt,vw,qX qj,qv qj,xc,clo,zd]
                simp only [vK,xa,rnb,zG,rnv,gAt,simprocAttr,qv qj,zd,clo]
                simp only [↓vS,vT,shb,shv,qb,qc,cellsOf,wr,qa,Nat.reduceEqDiff,↓reduceIte,Nat.reduceAdd,Nat.reduceMul,Nat.reduceSub,Nat.reduceLeDiff,Nat.reduceLT,Int.reduceLE,Int.reduceLT,Int.reduceEq,Int.reduceToNat]
                refine S.weak (Wk.mk _ _ [0,1,2,7,4,6] ?_ ?_ ?_ rfl) (xR h9 h10 false true false (jp true) (qt v) (zB E (ql w).1.name).1 j r.1 ⟨(ql w).1.name,0,(ql w).1.has⟩ w (r.2 ++ [zk 161 w]) (by omega) (by omega) k1 (by omega) hk.1 rfl _ ?_)
                · simp [vw,hh,hm1]
                · simp [vw,oL,qe,qj,qd,qK,hh,hm1]
                · simp
                · intro t' h' hw
                  simp only [↓vS,vT,shb,shv,qb,qc,cellsOf,wr,qa,Nat.reduceEqDiff,↓reduceIte,Nat.reduceAdd,Nat.reduceMul,Nat.reduceSub,Nat.reduceLeDiff,Nat.reduceLT,Int.reduceLE,Int.reduceLT,Int.reduceEq,Int.reduceToNat]
                  exact S.weak hw (xh false true (jp true) (qt v) j (by omega) _ _ _ (fun t'' h'' hw'=>ih2 (by omega) (by omega) t'' h'' hw'))
              | true =>
                have hs:qH E true true r w = ((zB E (ql w).1.name).1.foldl (zh true (ql w).1.act) r.1,r.2):=by
                  unfold qH; rw [if_neg (by simp [e1]),if_neg (by simp [e2]),if_neg (by simp [hh]),if_neg (by decide)]
                rw [hs] at ih2
                simp only [↓vS,vT,shb,shv,qb,qc,cellsOf,wr,qa,Nat.reduceEqDiff,↓reduceIte,Nat.reduceAdd,Nat.reduceMul,Nat.reduceSub,Nat.reduceLeDiff,Nat.reduceLT,Int.reduceLE,Int.reduceLT,Int.reduceEq,Int.reduceToNat]
                refine S.weak (Wk.mk _ _ [0,1,2,3,4,6] ?_ ?_ ?_ rfl) (xR h9 h10 true true true (jp true) (qt v) (zB E (ql w).1.name).1 j r.1 (ql w).1 w r.2 (by omega) (by omega) k1 (by omega) hk.1 (z2 w) _ ?_)
                · simp [vw,hh,hm1]
                · simp [vw,oL,qe,qj,qd,qK,hh,hm1]
                · simp
                · intro t' h' hw
                  simp only [↓vS,vT,shb,shv,qb,qc,cellsOf,wr,qa,Nat.reduceEqDiff,↓reduceIte,Nat.reduceAdd,Nat.reduceMul,Nat.reduceSub,Nat.reduceLeDiff,Nat.reduceLT,Int.reduceLE,Int.reduceLT,Int.reduceEq,Int.reduceToNat]
                  exact S.weak hw (xh true true (jp true) (qt v) j (by omega) _ _ _ (fun t'' h'' hw'=>ih2 (by omega) (by omega) t'' h'' hw'))
          · have hin:decide (r.1.mode - 1 = if true = true then 1 else 0) = true:=by rw [hm1]; rfl
            simp only [↓vS,vT,shb,shv,qb,qc,cellsOf,wr,qa,Nat.reduceEqDiff,↓reduceIte,Nat.reduceAdd,Nat.reduceMul,Nat.reduceSub,Nat.reduceLeDiff,Nat.reduceLT,Int.reduceLE,Int.reduceLT,Int.reduceEq,Int.reduceToNat,hm1,hway,hu1,hu2,List.drop_succ_cons,List.drop_zero,List.take_succ_cons,List.take_zero,List.getElem?_cons_zero,List.getElem?_cons_succ]
            cases hh:(ql w).1.has with
            | false =>
              have hs:qH E fl true r w = ((zB E (ql w).1.name).1.foldl (zh true (ql w).1.act) r.1,r.2):=by
                unfold qH; rw [if_neg (by simp [e1]),if_neg (by simp [e2]),if_pos hh,hin]
              rw [hs] at ih2
              simp only [↓vS,vT,shb,shv,qb,qc,cellsOf,wr,qa,Nat.reduceEqDiff,↓reduceIte,Nat.reduceAdd,Nat.reduceMul,Nat.reduceSub,Nat.reduceLeDiff,Nat.reduceLT,Int.reduceLE,Int.reduceLT,Int.reduceEq,Int.reduceToNat]
              refine S.weak (Wk.mk _ _ [0,1,2,3,4,6] ?_ ?_ ?_ rfl) (xR h9 h10 fl true true (jp true) (qt v) (zB E (ql w).1.name).1 j r.1 (ql w).1 w r.2 (by omega) (by omega) k1 (by omega) hk.1 (z2 w) _ ?_)
              · simp [vw,hh,hm1]
              · simp [vw,oL,qe,qj,qd,qK,hh,hm1]
              · simp
              · intro t' h' hw
                simp only [↓vS,vT,shb,shv,qb,qc,cellsOf,wr,qa,Nat.reduceEqDiff,↓reduceIte,Nat.reduceAdd,Nat.reduceMul,Nat.reduceSub,Nat.reduceLeDiff,Nat.reduceLT,Int.reduceLE,Int.reduceLT,Int.reduceEq,Int.reduceToNat]
                exact S.weak hw (xh fl true (jp true) (qt v) j (by omega) _ _ _ (fun t'' h'' hw'=>ih2 (by omega) (by omega) t'' h'' hw'))
            | true =>
              cases fl with
              | false =>
                have hs:qH E false true r w = ((zB E (ql w).1.name).1.foldl (zh true 0) r.1,r.2 ++ [zk 161 w]):=by
                  unfold qH; rw [if_neg (by simp [e1]),if_neg (by simp [e2]),if_neg (by simp [hh]),if_pos (by decide),hin]
                rw [hs] at ih2
                simp only [↓vS,vT,shb,shv,qb,qc,cellsOf,wr,qa,Nat.reduceEqDiff,↓reduceIte,Nat.reduceAdd,Nat.reduceMul,Nat.reduceSub,Nat.reduceLeDiff,Nat.reduceLT,Int.reduceLE,Int.reduceLT,Int.reduceEq,Int.reduceToNat]
                refine (h5 r.2 161 w (by simp only [qi]; omega)).sc (vs:=[.i .i64 161,.ptr 0 0,.ptr 1 0]) [2,5,3] (Lent.of (by decide) ?_) ?_
                · simp [vL,shb,shv,qb,zZ,bnd,zG,rnv,gAt,vw,qX qj,qv qj,xc,clo,zd]
                simp only [vK,xa,rnb,zG,rnv,gAt,simprocAttr,qv qj,zd,clo]
                simp only [↓vS,vT,shb,shv,qb,qc,cellsOf,wr,qa,Nat.reduceEqDiff,↓reduceIte,Nat.reduceAdd,Nat.reduceMul,Nat.reduceSub,Nat.reduceLeDiff,Nat.reduceLT,Int.reduceLE,Int.reduceLT,Int.reduceEq,Int.reduceToNat]
                refine S.weak (Wk.mk _ _ [0,1,2,7,4,6] ?_ ?_ ?_ rfl) (xR h9 h10 false true true (jp true) (qt v) (zB E (ql w).1.name).1 j r.1 ⟨(ql w).1.name,0,(ql w).1.has⟩ w (r.2 ++ [zk 161 w]) (by omega) (by omega) k1 (by omega) hk.1 rfl _ ?_)
                · simp [vw,hh,hm1]
                · simp [vw,oL,qe,qj,qd,qK,hh,hm1]
                · simp
                · intro t' h' hw
                  simp only [↓vS,vT,shb,shv,qb,qc,cellsOf,wr,qa,Nat.reduceEqDiff,↓reduceIte,Nat.reduceAdd,Nat.reduceMul,Nat.reduceSub,Nat.reduceLeDiff,Nat.reduceLT,Int.reduceLE,Int.reduceLT,Int.reduceEq,Int.reduceToNat]
                  exact S.weak hw (xh false true (jp true) (qt v) j (by omega) _ _ _ (fun t'' h'' hw'=>ih2 (by omega) (by omega) t'' h'' hw'))
              | true =>
                have hs:qH E true true r w = ((zB E (ql w).1.name).1.foldl (zh true (ql w).1.act) r.1,r.2):=by
                  unfold qH; rw [if_neg (by simp [e1]),if_neg (by simp [e2]),if_neg (by simp [hh]),if_neg (by decide)]
                rw [hs] at ih2
                simp only [↓vS,vT,shb,shv,qb,qc,cellsOf,wr,qa,Nat.reduceEqDiff,↓reduceIte,Nat.reduceAdd,Nat.reduceMul,Nat.reduceSub,Nat.reduceLeDiff,Nat.reduceLT,Int.reduceLE,Int.reduceLT,Int.reduceEq,Int.reduceToNat]
                refine S.weak (Wk.mk _ _ [0,1,2,3,4,6] ?_ ?_ ?_ rfl) (xR h9 h10 true true true (jp true) (qt v) (zB E (ql w).1.name).1 j r.1 (ql w).1 w r.2 (by omega) (by omega) k1 (by omega) hk.1 (z2 w) _ ?_)
                · simp [vw,hh,hm1]
                · simp [vw,oL,qe,qj,qd,qK,hh,hm1]
                · simp
                · intro t' h' hw
                  simp only [↓vS,vT,shb,shv,qb,qc,cellsOf,wr,qa,Nat.reduceEqDiff,↓reduceIte,Nat.reduceAdd,Nat.reduceMul,Nat.reduceSub,Nat.reduceLeDiff,Nat.reduceLT,Int.reduceLE,Int.reduceLT,Int.reduceEq,Int.reduceToNat]
                  exact S.weak hw (xh true true (jp true) (qt v) j (by omega) _ _ _ (fun t'' h'' hw'=>ih2 (by omega) (by omega) t'' h'' hw'))
        | false =>
          have hway:jp false = 0:=rfl
          rcases hmode with hm1 | hm1
          · have hin:decide (r.1.mode - 1 = if false = true then 1 else 0) = true:=by rw [hm1]; rfl
            simp only [↓vS,vT,shb,shv,qb,qc,cellsOf,wr,qa,Nat.reduceEqDiff,↓reduceIte,Nat.reduceAdd,Nat.reduceMul,Nat.reduceSub,Nat.reduceLeDiff,Nat.reduceLT,Int.reduceLE,Int.reduceLT,Int.reduceEq,Int.reduceToNat,hm1,hway,hu1,hu2,List.drop_succ_cons,List.drop_zero,List.take_succ_cons,List.take_zero,List.getElem?_cons_zero,List.getElem?_cons_succ]
            cases hh:(ql w).1.has with
            | false =>
              have hs:qH E fl false r w = ((zB E (ql w).1.name).1.foldl (zh true (ql w).1.act) r.1,r.2):=by
                unfold qH; rw [if_neg (by simp [e1]),if_neg (by simp [e2]),if_pos hh,hin]
              rw [hs] at ih2
              simp only [↓vS,vT,shb,shv,qb,qc,cellsOf,wr,qa,Nat.reduceEqDiff,↓reduceIte,Nat.reduceAdd,Nat.reduceMul,Nat.reduceSub,Nat.reduceLeDiff,Nat.reduceLT,Int.reduceLE,Int.reduceLT,Int.reduceEq,Int.reduceToNat]
              refine S.weak (Wk.mk _ _ [0,1,2,3,4,6] ?_ ?_ ?_ rfl) (xR h9 h10 fl false true (jp false) (qt v) (zB E (ql w).1.name).1 j r.1 (ql w).1 w r.2 (by omega) (by omega) k1 (by omega) hk.1 (z2 w) _ ?_)
              · simp [vw,hh,hm1]
              · simp [vw,oL,qe,qj,qd,qK,hh,hm1]
              · simp
              · intro t' h' hw
                simp only [↓vS,vT,shb,shv,qb,qc,cellsOf,wr,qa,Nat.reduceEqDiff,↓reduceIte,Nat.reduceAdd,Nat.reduceMul,Nat.reduceSub,Nat.reduceLeDiff,Nat.reduceLT,Int.reduceLE,Int.reduceLT,Int.reduceEq,Int.reduceToNat]
                exact S.weak hw (xh fl false (jp false) (qt v) j (by omega) _ _ _ (fun t'' h'' hw'=>ih2 (by omega) (by omega) t'' h'' hw'))
            | true =>
              cases fl with
              | false =>
                have hs:qH E false false r w = ((zB E (ql w).1.name).1.foldl (zh true 0) r.1,r.2 ++ [zk 161 w]):=by
                  unfold qH; rw [if_neg (by simp [e1]),if_neg (by simp [e2]),if_neg (by simp [hh]),if_pos (by decide),hin]
                rw [hs] at ih2
                simp only [↓vS,vT,shb,shv,qb,qc,cellsOf,wr,qa,Nat.reduceEqDiff,↓reduceIte,Nat.reduceAdd,Nat.reduceMul,Nat.reduceSub,Nat.reduceLeDiff,Nat.reduceLT,Int.reduceLE,Int.reduceLT,Int.reduceEq,Int.reduceToNat]
                refine (h5 r.2 161 w (by simp only [qi]; omega)).sc (vs:=[.i .i64 161,.ptr 0 0,.ptr 1 0]) [2,5,3] (Lent.of (by decide) ?_) ?_
                · simp [vL,shb,shv,qb,zZ,bnd,zG,rnv,gAt,vw,qX qj,qv qj,xc,clo,zd]
                simp only [vK,xa,rnb,zG,rnv,gAt,simprocAttr,qv qj,zd,clo]
                simp only [↓vS,vT,shb,shv,qb,qc,cellsOf,wr,qa,Nat.reduceEqDiff,↓reduceIte,Nat.reduceAdd,Nat.reduceMul,Nat.reduceSub,Nat.reduceLeDiff,Nat.reduceLT,Int.reduceLE,Int.reduceLT,Int.reduceEq,Int.reduceToNat]
                refine S.weak (Wk.mk _ _ [0,1,2,7,4,6] ?_ ?_ ?_ rfl) (xR h9 h10 false false true (jp false) (qt v) (zB E (ql w).1.name).1 j r.1 ⟨(ql w).1.name,0,(ql w).1.has⟩ w (r.2 ++ [zk 161 w]) (by omega) (by omega) k1 (by omega) hk.1 rfl _ ?_)
                · simp [vw,hh,hm1]
                · simp [vw,oL,qe,qj,qd,qK,hh,hm1]
                · simp
                · intro t' h' hw
                  simp only [↓vS,vT,shb,shv,qb,qc,cellsOf,wr,qa,Nat.reduceEqDiff,↓reduceIte,Nat.reduceAdd,Nat.reduceMul,Nat.reduceSub,Nat.reduceLeDiff,Nat.reduceLT,Int.reduceLE,Int.reduceLT,Int.reduceEq,Int.reduceToNat]
                  exact S.weak hw (xh false false (jp false) (qt v) j (by omega) _ _ _ (fun t'' h'' hw'=>ih2 (by omega) (by omega) t'' h'' hw'))
              | true =>
                have hs:qH E true false r w = ((zB E (ql w).1.name).1.foldl (zh true 0) r.1,r.2 ++ [zk 161 w]):=by
                  unfold qH; rw [if_neg (by simp [e1]),if_neg (by simp [e2]),if_neg (by simp [hh]),if_pos (by decide),hin]
                rw [hs] at ih2
                simp only [↓vS,vT,shb,shv,qb,qc,cellsOf,wr,qa,Nat.reduceEqDiff,↓reduceIte,Nat.reduceAdd,Nat.reduceMul,Nat.reduceSub,Nat.reduceLeDiff,Nat.reduceLT,Int.reduceLE,Int.reduceLT,Int.reduceEq,Int.reduceToNat]
                refine (h5 r.2 161 w (by simp only [qi]; omega)).sc (vs:=[.i .i64 161,.ptr 0 0,.ptr 1 0]) [2,5,3] (Lent.of (by decide) ?_) ?_
                · simp [vL,shb,shv,qb,zZ,bnd,zG,rnv,gAt,vw,qX qj,qv qj,xc,clo,zd]
                simp only [vK,xa,rnb,zG,rnv,gAt,simprocAttr,qv qj,zd,clo]
                simp only [↓vS,vT,shb,shv,qb,qc,cellsOf,wr,qa,Nat.reduceEqDiff,↓reduceIte,Nat.reduceAdd,Nat.reduceMul,Nat.reduceSub,Nat.reduceLeDiff,Nat.reduceLT,Int.reduceLE,Int.reduceLT,Int.reduceEq,Int.reduceToNat]
                refine S.weak (Wk.mk _ _ [0,1,2,7,4,6] ?_ ?_ ?_ rfl) (xR h9 h10 true false true (jp false) (qt v) (zB E (ql w).1.name).1 j r.1 ⟨(ql w).1.name,0,(ql w).1.has⟩ w (r.2 ++ [zk 161 w]) (by omega) (by omega) k1 (by omega) hk.1 rfl _ ?_)
                · simp [vw,hh,hm1]
                · simp [vw,oL,qe,qj,qd,qK,hh,hm1]
                · simp
                · intro t' h' hw
                  simp only [↓vS,vT,shb,shv,qb,qc,cellsOf,wr,qa,Nat.reduceEqDiff,↓reduceIte,Nat.reduceAdd,Nat.reduceMul,Nat.reduceSub,Nat.reduceLeDiff,Nat.reduceLT,Int.reduceLE,Int.reduceLT,Int.reduceEq,Int.reduceToNat]
                  exact S.weak hw (xh true false (jp false) (qt v) j (by omega) _ _ _ (fun t'' h'' hw'=>ih2 (by omega) (by omega) t'' h'' hw'))
          · have hin:decide (r.1.mode - 1 = if false = true then 1 else 0) = false:=by rw [hm1]; rfl
            simp only [↓vS,vT,shb,shv,qb,qc,cellsOf,wr,qa,Nat.reduceEqDiff,↓reduceIte,Nat.reduceAdd,Nat.reduceMul,Nat.reduceSub,Nat.reduceLeDiff,Nat.reduceLT,Int.reduceLE,Int.reduceLT,Int.reduceEq,Int.reduceToNat,hm1,hway,hu1,hu2,List.drop_succ_cons,List.drop_zero,List.take_succ_cons,List.take_zero,List.getElem?_cons_zero,List.getElem?_cons_succ]
            cases hh:(ql w).1.has with
            | false =>
              have hs:qH E fl false r w = ((zB E (ql w).1.name).1.foldl (zh false (ql w).1.act) r.1,r.2):=by
                unfold qH; rw [if_neg (by simp [e1]),if_neg (by simp [e2]),if_pos hh,hin]
              rw [hs] at ih2
              simp only [↓vS,vT,shb,shv,qb,qc,cellsOf,wr,qa,Nat.reduceEqDiff,↓reduceIte,Nat.reduceAdd,Nat.reduceMul,Nat.reduceSub,Nat.reduceLeDiff,Nat.reduceLT,Int.reduceLE,Int.reduceLT,Int.reduceEq,Int.reduceToNat]
              refine S.weak (Wk.mk _ _ [0,1,2,3,4,6] ?_ ?_ ?_ rfl) (xR h9 h10 fl false false (jp false) (qt v) (zB E (ql w).1.name).1 j r.1 (ql w).1 w r.2 (by omega) (by omega) k1 (by omega) hk.1 (z2 w) _ ?_)
              · simp [vw,hh,hm1]
              · simp [vw,oL,qe,qj,qd,qK,hh,hm1]
              · simp
              · intro t' h' hw
                simp only [↓vS,vT,shb,shv,qb,qc,cellsOf,wr,qa,Nat.reduceEqDiff,↓reduceIte,Nat.reduceAdd,Nat.reduceMul,Nat.reduceSub,Nat.reduceLeDiff,Nat.reduceLT,Int.reduceLE,Int.reduceLT,Int.reduceEq,Int.reduceToNat]
                exact S.weak hw (xh fl false (jp false) (qt v) j (by omega) _ _ _ (fun t'' h'' hw'=>ih2 (by omega) (by omega) t'' h'' hw'))
            | true =>
              cases fl with
              | false =>
                have hs:qH E false false r w = ((zB E (ql w).1.name).1.foldl (zh false 0) r.1,r.2 ++ [zk 161 w]):=by
                  unfold qH; rw [if_neg (by simp [e1]),if_neg (by simp [e2]),if_neg (by simp [hh]),if_pos (by decide),hin]
                rw [hs] at ih2
                simp only [↓vS,vT,shb,shv,qb,qc,cellsOf,wr,qa,Nat.reduceEqDiff,↓reduceIte,Nat.reduceAdd,Nat.reduceMul,Nat.reduceSub,Nat.reduceLeDiff,Nat.reduceLT,Int.reduceLE,Int.reduceLT,Int.reduceEq,Int.reduceToNat]
                refine (h5 r.2 161 w (by simp only [qi]; omega)).sc (vs:=[.i .i64 161,.ptr 0 0,.ptr 1 0]) [2,5,3] (Lent.of (by decide) ?_) ?_
                · simp [vL,shb,shv,qb,zZ,bnd,zG,rnv,gAt,vw,qX qj,qv qj,xc,clo,zd]
                simp only [vK,xa,rnb,zG,rnv,gAt,simprocAttr,qv qj,zd,clo]
                simp only [↓vS,vT,shb,shv,qb,qc,cellsOf,wr,qa,Nat.reduceEqDiff,↓reduceIte,Nat.reduceAdd,Nat.reduceMul,Nat.reduceSub,Nat.reduceLeDiff,Nat.reduceLT,Int.reduceLE,Int.reduceLT,Int.reduceEq,Int.reduceToNat]
                refine S.weak (Wk.mk _ _ [0,1,2,7,4,6] ?_ ?_ ?_ rfl) (xR h9 h10 false false false (jp false) (qt v) (zB E (ql w).1.name).1 j r.1 ⟨(ql w).1.name,0,(ql w).1.has⟩ w (r.2 ++ [zk 161 w]) (by omega) (by omega) k1 (by omega) hk.1 rfl _ ?_)
                · simp [vw,hh,hm1]
                · simp [vw,oL,qe,qj,qd,qK,hh,hm1]
                · simp
                · intro t' h' hw
                  simp only [↓vS,vT,shb,shv,qb,qc,cellsOf,wr,qa,Nat.reduceEqDiff,↓reduceIte,Nat.reduceAdd,Nat.reduceMul,Nat.reduceSub,Nat.reduceLeDiff,Nat.reduceLT,Int.reduceLE,Int.reduceLT,Int.reduceEq,Int.reduceToNat]
                  exact S.weak hw (xh false false (jp false) (qt v) j (by omega) _ _ _ (fun t'' h'' hw'=>ih2 (by omega) (by omega) t'' h'' hw'))
              | true =>
                have hs:qH E true false r w = ((zB E (ql w).1.name).1.foldl (zh false 0) r.1,r.2 ++ [zk 161 w]):=by
                  unfold qH; rw [if_neg (by simp [e1]),if_neg (by simp [e2]),if_neg (by simp [hh]),if_pos (by decide),hin]
                rw [hs] at ih2
                simp only [↓vS,vT,shb,shv,qb,qc,cellsOf,wr,qa,Nat.reduceEqDiff,↓reduceIte,Nat.reduceAdd,Nat.reduceMul,Nat.reduceSub,Nat.reduceLeDiff,Nat.reduceLT,Int.reduceLE,Int.reduceLT,Int.reduceEq,Int.reduceToNat]
                refine (h5 r.2 161 w (by simp only [qi]; omega)).sc (vs:=[.i .i64 161,.ptr 0 0,.ptr 1 0]) [2,5,3] (Lent.of (by decide) ?_) ?_
                · simp [vL,shb,shv,qb,zZ,bnd,zG,rnv,gAt,vw,qX qj,qv qj,xc,clo,zd]
                simp only [vK,xa,rnb,zG,rnv,gAt,simprocAttr,qv qj,zd,clo]
                simp only [↓vS,vT,shb,shv,qb,qc,cellsOf,wr,qa,Nat.reduceEqDiff,↓reduceIte,Nat.reduceAdd,Nat.reduceMul,Nat.reduceSub,Nat.reduceLeDiff,Nat.reduceLT,Int.reduceLE,Int.reduceLT,Int.reduceEq,Int.reduceToNat]
                refine S.weak (Wk.mk _ _ [0,1,2,7,4,6] ?_ ?_ ?_ rfl) (xR h9 h10 true false false (jp false) (qt v) (zB E (ql w).1.name).1 j r.1 ⟨(ql w).1.name,0,(ql w).1.has⟩ w (r.2 ++ [zk 161 w]) (by omega) (by omega) k1 (by omega) hk.1 rfl _ ?_)
                · simp [vw,hh,hm1]
                · simp [vw,oL,qe,qj,qd,qK,hh,hm1]
                · simp
                · intro t' h' hw
                  simp only [↓vS,vT,shb,shv,qb,qc,cellsOf,wr,qa,Nat.reduceEqDiff,↓reduceIte,Nat.reduceAdd,Nat.reduceMul,Nat.reduceSub,Nat.reduceLeDiff,Nat.reduceLT,Int.reduceLE,Int.reduceLT,Int.reduceEq,Int.reduceToNat]
                  exact S.weak hw (xh true false (jp false) (qt v) j (by omega) _ _ _ (fun t'' h'' hw'=>ih2 (by omega) (by omega) t'' h'' hw'))
      · have hs:qH E fl t r w = (r.1,r.2 ++ [zk (zB E (ql w).1.name).2 w]):=by unfold qH; rw [if_neg (by simp [e1]),if_pos e2]
        rw [hs] at ih2
        simp only [↓vS,vT,shb,shv,qb,qc,cellsOf,wr,qa,Nat.reduceEqDiff,↓reduceIte,Nat.reduceAdd,Nat.reduceMul,Nat.reduceSub,Nat.reduceLeDiff,Nat.reduceLT,Int.reduceLE,Int.reduceLT,Int.reduceEq,Int.reduceToNat,e2]
        refine (h5 r.2 (zB E (ql w).1.name).2 w (by simp only [qi]; omega)).sc (vs:=[.i .i64 (zB E (ql w).1.name).2,.ptr 0 0,.ptr 1 0]) [2,5,3] (Lent.of (by decide) ?_) ?_
        · simp [vL,shb,shv,qb,zZ,bnd,zG,rnv,gAt,vw,qX qj,qv qj,xc,clo,zd]
        simp only [vK,xa,rnb,zG,rnv,gAt,simprocAttr,qv qj,zd,clo]
        simp only [↓vS,vT,shb,shv,qb,qc,cellsOf,wr,qa,Nat.reduceEqDiff,↓reduceIte,Nat.reduceAdd,Nat.reduceMul,Nat.reduceSub,Nat.reduceLeDiff,Nat.reduceLT,Int.reduceLE,Int.reduceLT,Int.reduceEq,Int.reduceToNat]
        refine S.weak (Wk.mk _ _ [0,1,2,7,4] ?_ ?_ ?_ rfl) (xh fl t (jp t) (qt v) j (by omega) r.1 (r.2 ++ [zk (zB E (ql w).1.name).2 w]) _ (fun t' h' hw=>ih2 (by omega) (by omega) t' h' hw))
        · simp [vw]
        · simp [vw,oL,qe,qj,qd]
        · simp
    · have hs:qH E fl t r w = (r.1,r.2 ++ [zk (ql w).2 w]):=by unfold qH; rw [if_pos e1]
      rw [hs] at ih2
      simp only [↓vS,vT,shb,shv,qb,qc,cellsOf,wr,qa,Nat.reduceEqDiff,↓reduceIte,Nat.reduceAdd,Nat.reduceMul,Nat.reduceSub,Nat.reduceLeDiff,Nat.reduceLT,Int.reduceLE,Int.reduceLT,Int.reduceEq,Int.reduceToNat,e1]
      refine (h5 r.2 (ql w).2 w (by simp only [qi]; omega)).sc (vs:=[.i .i64 (ql w).2,.ptr 0 0,.ptr 1 0]) [2,5,3] (Lent.of (by decide) ?_) ?_
      · simp [vL,shb,shv,qb,zZ,bnd,zG,rnv,gAt,vw,qX qj,qv qj,xc,clo,zd]
      simp only [vK,xa,rnb,zG,rnv,gAt,simprocAttr,qv qj,zd,clo]
      simp only [↓vS,vT,shb,shv,qb,qc,cellsOf,wr,qa,Nat.reduceEqDiff,↓reduceIte,Nat.reduceAdd,Nat.reduceMul,Nat.reduceSub,Nat.reduceLeDiff,Nat.reduceLT,Int.reduceLE,Int.reduceLT,Int.reduceEq,Int.reduceToNat]
      refine S.weak (Wk.mk _ _ [0,1,2,7,4] ?_ ?_ ?_ rfl) (xh fl t (jp t) (qt v) j (by omega) r.1 (r.2 ++ [zk (ql w).2 w]) _ (fun t' h' hw=>ih2 (by omega) (by omega) t' h' hw))
      · simp [vw]
      · simp [vw,oL,qe,qj,qd]
      · simp
  · have hjl:(qt v).take j = qt v:=List.take_of_length_le (by omega)
    rw [hjl] at hr
    rw [hr]
    simp only [oL]
    simp only [↓vS,vT,shb,shv,qb,qc,cellsOf,wr,qa,Nat.reduceEqDiff,↓reduceIte,Nat.reduceAdd,Nat.reduceMul,Nat.reduceSub,Nat.reduceLeDiff,Nat.reduceLT,Int.reduceLE,Int.reduceLT,Int.reduceEq,Int.reduceToNat,hlt]
    refine zU ?_
    simp only [↓vS,vT,shb,shv,qb,qc,cellsOf,wr,qa,Nat.reduceEqDiff,↓reduceIte,Nat.reduceAdd,Nat.reduceMul,Nat.reduceSub,Nat.reduceLeDiff,Nat.reduceLT,Int.reduceLE,Int.reduceLT,Int.reduceEq,Int.reduceToNat,not_false_eq_true]
    intro _
    refine ⟨[4,3],?_⟩
    simp [vw,oL,qe,qj,qd]
end Go.Kc
end
section
/- What fold.Step answers, its list in a row of its own, whole. Condition: the functions' texts are these. -/
namespace Go.Kc
variable {P:Program} {f:Nat}
theorem qfl:∀ {l:List GNote},jO (rN l) = true
  | []=>rfl
  | c :: l=>by
    have:rN (c :: l) = [.s c.file,.i .i64 c.line,.i .i64 c.err,.s c.text] ++ rN l:=rfl
    rw [this]; simp [jO,w6,qfl (l:=l)]
def ym (E:List UInt8 → List (List UInt8) × Int) (P:Program) (f:Nat):Prop:=∀ (l:GList) (v:List UInt8) (fl:Bool),l.calls.length ≤ 100000 → v.length ≤ 1000 → 0 ≤ l.mode →
  ku P f [.agg (qk l),.s v,.b fl] (.tup [.agg [.i .u8 (qR E l v fl).1.mode,.own 0 (qR E l v fl).1.calls.length],.own 1 (qR E l v fl).2.length]) [.cells 2 true true (rC (qR E l v fl).1.calls),.cells 4 true true (rN (qR E l v fl).2)]
theorem ym.own {E:List UInt8 → List (List UInt8) × Int} (h:ym E P f):qoy E P f:=fun l v fl h1 h2 h3=>(h l v fl h1 h2 h3).own rfl
theorem qge {g1 g2 g3 g4 g5 g6 g7 g8 g9 g10:Nat} {E:List UInt8 → List (List UInt8) × Int} (hc:qh P f (yi g1 g2 g3 g4 g5 g6 g7 g8 g9 g10) = true) (hE:ki E) (h1:qmF P g1) (h2:qkR P g2) (h3:qeh P g3) (h4:qgu P g4) (h5:qix P g5) (h6:qcB P g6) (h7:qbS (zB E) P g7) (h8:qq0 P g8) (h9:qir P g9) (h10:qfx P g10):ym E P f:=by
  intro l v fl hl hv hm0
  have htl:=qbB v
  refine ku.mk hc rfl (by simp [qdF,qbb,qfl]) ?_
  simp only [yi,qk,qm,H0,mkT,mkH,trL,vI,simprocAttr]
  simp only [↓vS,vT,shb,shv,qb,qc,cellsOf,wr,qa,Nat.reduceEqDiff,↓reduceIte,Nat.reduceAdd,Nat.reduceMul,Nat.reduceSub,Nat.reduceLeDiff,Nat.reduceLT,Int.reduceLE,Int.reduceLT,Int.reduceEq,Int.reduceToNat]
  refine (h1 l hl).sc ?_
  simp only [vJ,shb,shv,qb,simprocAttr,qY qd]
  simp only [↓vS,vT,shb,shv,qb,qc,cellsOf,wr,qa,Nat.reduceEqDiff,↓reduceIte,Nat.reduceAdd,Nat.reduceMul,Nat.reduceSub,Nat.reduceLeDiff,Nat.reduceLT,Int.reduceLE,Int.reduceLT,Int.reduceEq,Int.reduceToNat]
  refine (h2 l hl).lend (vs':=[.agg (qk l)]) ?_ rfl ?_
  · simp [vZ,vP,Tr.get_set,qk,qF qd]
    intro h0; rw [h0]; rfl
  cases hM:zA l with
  | false =>
    have hs:qR E l v fl = (l,[]):=if_pos hM
    rw [hs]
    simp only [↓vS,vT,shb,shv,qb,qc,cellsOf,wr,qa,Nat.reduceEqDiff,↓reduceIte,Nat.reduceAdd,Nat.reduceMul,Nat.reduceSub,Nat.reduceLeDiff,Nat.reduceLT,Int.reduceLE,Int.reduceLT,Int.reduceEq,Int.reduceToNat]
    intro _
    refine ⟨[2,3],?_⟩
    simp [vw,qk,qe,qd,rN]
  | true =>
    have hmm:=((z8 l).1 hM).1
    simp only [↓vS,vT,shb,shv,qb,qc,cellsOf,wr,qa,Nat.reduceEqDiff,↓reduceIte,Nat.reduceAdd,Nat.reduceMul,Nat.reduceSub,Nat.reduceLeDiff,Nat.reduceLT,Int.reduceLE,Int.reduceLT,Int.reduceEq,Int.reduceToNat]
    refine (h3 v (by omega)).sc ?_
    by_cases hw:qt v = []
    · have hs:qR E l v fl = (⟨0,[]⟩,[]):=by unfold qR; rw [if_neg (by simp [hM]),if_pos hw]
      rw [hs]
      simp only [↓vS,vT,shb,shv,qb,qc,cellsOf,wr,qa,Nat.reduceEqDiff,↓reduceIte,Nat.reduceAdd,Nat.reduceMul,Nat.reduceSub,Nat.reduceLeDiff,Nat.reduceLT,Int.reduceLE,Int.reduceLT,Int.reduceEq,Int.reduceToNat,hw,List.length_nil]
      intro _
      refine ⟨[3,4],?_⟩
      simp [vw,qk,qe,rC,rN]
    · have hwn:¬ ((qt v).length:Int) = 0:=by have:=List.length_pos_iff.2 hw; omega
      have hs:qR E l v fl = (qt (zj v).1).foldl (qH E fl (zj v).2) (⟨if l.mode = 0 then (if (zj v).2 = true then 2 else 1) else l.mode,l.calls⟩,[]):=by
        unfold qR; rw [if_neg (by simp [hM]),if_neg hw]
      rw [hs]
      simp only [↓vS,vT,shb,shv,qb,qc,cellsOf,wr,qa,Nat.reduceEqDiff,↓reduceIte,Nat.reduceAdd,Nat.reduceMul,Nat.reduceSub,Nat.reduceLeDiff,Nat.reduceLT,Int.reduceLE,Int.reduceLT,Int.reduceEq,Int.reduceToNat,hwn]
      refine (h4 v).sc ?_
      rw [qks]
      have key:∀ (m:Int),m = (if l.mode = 0 then (if (zj v).2 = true then 2 else 1) else l.mode) → zA ⟨m,l.calls⟩ = true ∧ (m = 1 ∨ m = 2):=by
        intro m hm
        have h12:m = 1 ∨ m = 2:=by
          rw [hm]; split
          · split <;> simp
          · have:=hmm.1; omega
        obtain ⟨_,a1,a2⟩:=(z8 l).1 hM
        exact ⟨(z8 _).2 ⟨⟨by dsimp only; omega,.inl (by dsimp only; omega)⟩,a1,a2⟩,h12⟩
      cases ht:(zj v).2 with
      | true =>
        by_cases h0:l.mode = 0
        · have hu:IntKind.wrap .u8 (1 + 1) = 2:=by decide
          have hu1:IntKind.wrap .u8 1 = 1:=by decide
          obtain ⟨k1,k2⟩:=key 2 (by rw [h0,ht]; rfl)
          rw [show (if l.mode = 0 then (if true = true then (2:Int) else 1) else l.mode) = 2 from by rw [h0]; rfl]
          simp only [↓vS,vT,shb,shv,qb,qc,cellsOf,wr,qa,Nat.reduceEqDiff,↓reduceIte,Nat.reduceAdd,Nat.reduceMul,Nat.reduceSub,Nat.reduceLeDiff,Nat.reduceLT,Int.reduceLE,Int.reduceLT,Int.reduceEq,Int.reduceToNat,h0,hu,hu1]
          refine S.weak (Wk.mk _ _ [0,1,3,4,2] ?_ ?_ ?_ rfl) (qa4 hE h3 h5 h6 h7 h8 h9 h10 fl true (zj v).1 (by omega) ⟨2,l.calls⟩ k1 k2)
          · simp [vw,jp]
          · simp [vw,oL,qe,qd]
          · simp
        · obtain ⟨k1,k2⟩:=key l.mode (by rw [if_neg h0])
          rw [show (if l.mode = 0 then (if true = true then (2:Int) else 1) else l.mode) = l.mode from if_neg h0]
          simp only [↓vS,vT,shb,shv,qb,qc,cellsOf,wr,qa,Nat.reduceEqDiff,↓reduceIte,Nat.reduceAdd,Nat.reduceMul,Nat.reduceSub,Nat.reduceLeDiff,Nat.reduceLT,Int.reduceLE,Int.reduceLT,Int.reduceEq,Int.reduceToNat,h0]
          refine S.weak (Wk.mk _ _ [0,1,3,4,2] ?_ ?_ ?_ rfl) (qa4 hE h3 h5 h6 h7 h8 h9 h10 fl true (zj v).1 (by omega) ⟨l.mode,l.calls⟩ k1 k2)
          · simp [vw,jp]
          · simp [vw,oL,qe,qd]
          · simp
      | false =>
        by_cases h0:l.mode = 0
        · have hu:IntKind.wrap .u8 (1 + 0) = 1:=by decide
          have hu1:IntKind.wrap .u8 0 = 0:=by decide
          obtain ⟨k1,k2⟩:=key 1 (by rw [h0,ht]; rfl)
          rw [show (if l.mode = 0 then (if false = true then (2:Int) else 1) else l.mode) = 1 from by rw [h0]; rfl]
          simp only [↓vS,vT,shb,shv,qb,qc,cellsOf,wr,qa,Nat.reduceEqDiff,↓reduceIte,Nat.reduceAdd,Nat.reduceMul,Nat.reduceSub,Nat.reduceLeDiff,Nat.reduceLT,Int.reduceLE,Int.reduceLT,Int.reduceEq,Int.reduceToNat,h0,hu,hu1]
          refine S.weak (Wk.mk _ _ [0,1,3,4,2] ?_ ?_ ?_ rfl) (qa4 hE h3 h5 h6 h7 h8 h9 h10 fl false (zj v).1 (by omega) ⟨1,l.calls⟩ k1 k2)
          · simp [vw,jp]
          · simp [vw,oL,qe,qd]
          · simp
        · obtain ⟨k1,k2⟩:=key l.mode (by rw [if_neg h0])
          rw [show (if l.mode = 0 then (if false = true then (2:Int) else 1) else l.mode) = l.mode from if_neg h0]
          simp only [↓vS,vT,shb,shv,qb,qc,cellsOf,wr,qa,Nat.reduceEqDiff,↓reduceIte,Nat.reduceAdd,Nat.reduceMul,Nat.reduceSub,Nat.reduceLeDiff,Nat.reduceLT,Int.reduceLE,Int.reduceLT,Int.reduceEq,Int.reduceToNat,h0]
          refine S.weak (Wk.mk _ _ [0,1,3,4,2] ?_ ?_ ?_ rfl) (qa4 hE h3 h5 h6 h7 h8 h9 h10 fl false (zj v).1 (by omega) ⟨l.mode,l.calls⟩ k1 k2)
          · simp [vw,jp]
          · simp [vw,oL,qe,qd]
          · simp
end Go.Kc
end
section
/- What filter.Set answers, a policy's rows its own: its functions. Condition: the functions' texts are these. -/
namespace Go.Kc
variable {P:Program} {f:Nat}
def qB (p:Pol) (a f l m:Nat):List AV:=[.own a p.arches.length,.i .u8 p.filter.mode,.own f p.filter.calls.length,.i .u32 p.deny,.i .u8 p.log.mode,.own l p.log.calls.length,
  .own m p.fams.length,.i .u8 p.fmode,.i .u64 p.spaces,.b p.we,.b p.pe,.b p.rt,.b p.np]
def prA (p:Pol):Blk:=.cells 1 true true (rI .i64 p.arches)
def prF (p:Pol):Blk:=.cells 2 true true (rC p.filter.calls)
def prL (p:Pol):Blk:=.cells 2 true true (rC p.log.calls)
def prM (p:Pol):Blk:=.cells 1 true true (rI .u32 p.fams)
def qcA (P:Program) (f:Nat):Prop:=∀ p,PolOk p → Own P f [.agg (zV p)] (.agg (qB p 0 1 2 3)) [prA p,prF p,prL p,prM p]
theorem qmm {g1 g2 g3:Nat} (hc:qh P f (wJ g1 g2 g3) = true) (h1:kJ P g1 1 8) (h2:kJ P g2 1 4) (h3:kJ P g3 2 24):qcA P f:=by
  intro p hp
  have ha:=hp.a
  have hf:=hp.f
  have hcc:=hp.c
  have hl:=hp.l
  refine Own.mk hc rfl ?_
  simp only [wJ,zV,qm,H0,mkT,mkH,trL,vI,simprocAttr]
  simp only [↓vS,vT,shb,shv,qb,qc,cellsOf,wr,qa,simprocAttr]
  refine (h1 p.arches.length (rI .i64 p.arches) (by rw [yw]; omega) qq qfo (by simp only [qi]; omega) (by simp only [qi]; omega)).sc ?_
  simp only [vJ,shb,shv,qb,simprocAttr,qY qq]
  simp only [↓vS,vT,shb,shv,qb,qc,cellsOf,wr,qa,simprocAttr]
  refine (h2 p.fams.length (rI .u32 p.fams) (by rw [yw]; omega) qq qfo (by simp only [qi]; omega) (by simp only [qi]; omega)).sc ?_
  simp only [vJ,shb,shv,qb,simprocAttr,qY qq]
  simp only [↓vS,vT,shb,shv,qb,qc,cellsOf,wr,qa,simprocAttr]
  refine (h3 p.filter.calls.length (rC p.filter.calls) xL qd qdD (by simp only [qi]; omega) (by simp only [qi]; omega)).sc ?_
  simp only [vJ,shb,shv,qb,simprocAttr,qY qd]
  simp only [↓vS,vT,shb,shv,qb,qc,cellsOf,wr,qa,simprocAttr]
  refine (h3 p.log.calls.length (rC p.log.calls) xL qd qdD (by simp only [qi]; omega) (by simp only [qi]; omega)).sc ?_
  simp only [vJ,shb,shv,qb,simprocAttr,qY qd]
  simp only [↓vS,vT,shb,shv,qb,qc,cellsOf,wr,qa,simprocAttr]
  intro _
  refine ⟨[2,4,5,3],?_⟩
  simp [vw,qB,prA,prF,prL,prM,qe,qd,qq]
def xA (p:Pol) (a f l m:Nat):List Blk:=[.cells 0 true false (qB p a f l m),prA p,prF p,prL p,prM p]
theorem qkK (hc:qh P f js = true) (p:Pol):Upd P f [.ptr 0 0] (xA p 1 2 3 4) (.ptr 0 1) (xA p 1 2 3 4):=by
  refine Upd.mk hc (by simp [zZ,bnd,xA]) (by simp [xA]) ?_
  simp only [js,xA,qB,prA,prF,prL,prM,qm,H0,mkT,mkH,trL,vI,simprocAttr]
  simp only [↓vS,vT,shb,shv,qb,qc,cellsOf,wr,qa,simprocAttr]
  intro _
  refine ⟨[0,1,2,3,4],?_⟩
  simp [vw,qe,qd,qq]
  try decide
theorem qlw (hc:qh P f jr = true) (p:Pol):Upd P f [.ptr 0 0] (xA p 1 2 3 4) (.ptr 0 4) (xA p 1 2 3 4):=by
  refine Upd.mk hc (by simp [zZ,bnd,xA]) (by simp [xA]) ?_
  simp only [jr,xA,qB,prA,prF,prL,prM,qm,H0,mkT,mkH,trL,vI,simprocAttr]
  simp only [↓vS,vT,shb,shv,qb,qc,cellsOf,wr,qa,simprocAttr]
  intro _
  refine ⟨[0,1,2,3,4],?_⟩
  simp [vw,qe,qd,qq]
  try decide
end Go.Kc
end
section
/- What the keys of filter do to a policy whose rows are its own. Condition: the functions' texts are these. -/
namespace Go.Kc
variable {P:Program} {f:Nat}
def qgL (p q:Pol) (ns:List GNote):List Blk:=[.cells 0 true false (qB q 1 5 3 4),prA p,prF p,prL p,prM p,prF q,.cells 4 true true (rN ns)]
def qgl (p q:Pol) (ns:List GNote):List Blk:=[.cells 0 true false (qB q 1 2 5 4),prA p,prF p,prL p,prM p,prL q,.cells 4 true true (rN ns)]
theorem qiO {g1 g2:Nat} {E:List UInt8 → List (List UInt8) × Int} (hc:qh P f (z4 g2) = true) (h1:∀ p,Upd P g1 [.ptr 0 0] (xA p 1 2 3 4) (.ptr 0 1) (xA p 1 2 3 4)) (h2:ym E P g2) (p:Pol) (v:List UInt8) (fl:Bool)
    (hl:p.filter.calls.length ≤ 100000) (hv:v.length ≤ 1000) (hm:0 ≤ p.filter.mode) :
    Upd P f [.ptr 0 0,.s v,.pf [.fn g1 [] []] 0,.pf [.b fl] 0] (xA p 1 2 3 4) (.own 6 (qR E p.filter v fl).2.length) (qgL p { p with filter:=(qR E p.filter v fl).1 } (qR E p.filter v fl).2):=by
  refine Upd.mk hc (by simp [zZ,bnd,xc,clo,qC,xA]) (by simp [xA,qgL]) ?_
  simp only [z4,xA,qgL,qB,prA,prF,prL,prM,qm,H0,mkT,mkH,trL,vI,simprocAttr]
  simp only [↓vS,vT,shb,shv,qb,qc,cellsOf,wr,qa,simprocAttr]
  refine (h1 p).sc (vs:=[.ptr 0 0]) [0,1,2,3,4] (Lent.of (by decide) ?_) ?_
  · simp [vL,shb,shv,qb,zZ,bnd,zG,rnv,gAt,vw,xA,qB,prA,prF,prL,prM,xc,clo,zd,qX qd,qX qq,qv qd,qv qq]
  simp only [vK,xa,rnb,zG,rnv,gAt,simprocAttr,xA,qB,prA,prF,prL,prM,zd,clo,qv qd,qv qq]
  simp only [↓vS,vT,shb,shv,qb,qc,cellsOf,wr,qa,simprocAttr]
  refine zU ?_
  simp only [↓vS,vT,shb,shv,qb,qc,cellsOf,wr,qa,simprocAttr]
  refine (h2 p.filter v fl hl hv hm).pc ?_ ?_
  · simp [vZ,vP,Tr.get_set,qk,qF qd]
    intro h0; rw [h0]; rfl
  simp only [vJ,shb,shv,qb,simprocAttr,qY qd,qY qj]
  simp only [↓vS,vT,shb,shv,qb,qc,cellsOf,wr,qa,simprocAttr]
  intro _
  refine ⟨[0,1,2,3,4,5,6],?_⟩
  simp [vw,qe,qj,qd,qq]
  try decide
theorem qkk {g1 g2:Nat} {E:List UInt8 → List (List UInt8) × Int} (hc:qh P f (z4 g2) = true) (h1:∀ p,Upd P g1 [.ptr 0 0] (xA p 1 2 3 4) (.ptr 0 4) (xA p 1 2 3 4)) (h2:ym E P g2) (p:Pol) (v:List UInt8) (fl:Bool)
    (hl:p.log.calls.length ≤ 100000) (hv:v.length ≤ 1000) (hm:0 ≤ p.log.mode) :
    Upd P f [.ptr 0 0,.s v,.pf [.fn g1 [] []] 0,.pf [.b fl] 0] (xA p 1 2 3 4) (.own 6 (qR E p.log v fl).2.length) (qgl p { p with log:=(qR E p.log v fl).1 } (qR E p.log v fl).2):=by
  refine Upd.mk hc (by simp [zZ,bnd,xc,clo,qC,xA]) (by simp [xA,qgl]) ?_
  simp only [z4,xA,qgl,qB,prA,prF,prL,prM,qm,H0,mkT,mkH,trL,vI,simprocAttr]
  simp only [↓vS,vT,shb,shv,qb,qc,cellsOf,wr,qa,simprocAttr]
  refine (h1 p).sc (vs:=[.ptr 0 0]) [0,1,2,3,4] (Lent.of (by decide) ?_) ?_
  · simp [vL,shb,shv,qb,zZ,bnd,zG,rnv,gAt,vw,xA,qB,prA,prF,prL,prM,xc,clo,zd,qX qd,qX qq,qv qd,qv qq]
  simp only [vK,xa,rnb,zG,rnv,gAt,simprocAttr,xA,qB,prA,prF,prL,prM,zd,clo,qv qd,qv qq]
  simp only [↓vS,vT,shb,shv,qb,qc,cellsOf,wr,qa,simprocAttr]
  refine zU ?_
  simp only [↓vS,vT,shb,shv,qb,qc,cellsOf,wr,qa,simprocAttr]
  refine (h2 p.log v fl hl hv hm).pc ?_ ?_
  · simp [vZ,vP,Tr.get_set,qk,qF qd]
    intro h0; rw [h0]; rfl
  simp only [vJ,shb,shv,qb,simprocAttr,qY qd,qY qj]
  simp only [↓vS,vT,shb,shv,qb,qc,cellsOf,wr,qa,simprocAttr]
  intro _
  refine ⟨[0,1,2,3,4,5,6],?_⟩
  simp [vw,qe,qj,qd,qq]
  try decide
theorem qgc {g1:Nat} (hc:qh P f (z3 g1) = true) (h1:qbK P g1) (p:Pol) (v:List UInt8) (hv:v.length ≤ 1000) (he:(jG v).2 = 0) :
    Upd P f [.ptr 0 0,.s v] (xA p 1 2 3 4) (.own 5 0) (xA { p with deny:=(jG v).1 } 1 2 3 4 ++ [.cells 4 true true []]):=by
  refine Upd.mk hc (by simp [zZ,bnd,xA]) (by simp [xA]) ?_
  simp only [z3,xA,qB,prA,prF,prL,prM,qm,H0,mkT,mkH,trL,vI,simprocAttr,List.cons_append,List.nil_append]
  simp only [↓vS,vT,shb,shv,qb,qc,cellsOf,wr,qa,simprocAttr]
  refine (h1 v (by omega)).sc ?_
  simp only [↓vS,vT,shb,shv,qb,qc,cellsOf,wr,qa,simprocAttr,he]
  intro _
  refine ⟨[0,1,2,3,4,5],?_⟩
  simp [vw,qe,qj,qd,qq]
  try decide
theorem qfC {g1:Nat} (hc:qh P f (z3 g1) = true) (h1:qbK P g1) (p:Pol) (v:List UInt8) (hv:v.length ≤ 1000) (he:¬ (jG v).2 = 0) :
    Upd P f [.ptr 0 0,.s v] (xA p 1 2 3 4) (.sl 5 0 1 1 false) (xA p 1 2 3 4 ++ [.cells 0 true false (rN [zk (jG v).2 v])]):=by
  refine Upd.mk hc (by simp [zZ,bnd,xA]) (by simp [xA]) ?_
  simp only [z3,xA,qB,prA,prF,prL,prM,qm,H0,mkT,mkH,trL,vI,simprocAttr,List.cons_append,List.nil_append]
  simp only [↓vS,vT,shb,shv,qb,qc,cellsOf,wr,qa,simprocAttr]
  refine (h1 v (by omega)).sc ?_
  simp only [↓vS,vT,shb,shv,qb,qc,cellsOf,wr,qa,simprocAttr,he]
  by_cases h60:(60:Int) < v.length
  · have h1:60 ≤ v.length:=by omega
    simp only [↓vS,vT,shb,shv,qb,qc,cellsOf,wr,qa,simprocAttr,h60,h1,List.drop_zero]
    intro _
    refine ⟨[0,1,2,3,4,5],?_⟩
    simp [vw,qe,rN,qaY,zk,qq,qd]
    try decide
  · have h1:v.take 60 = v:=List.take_of_length_le (by omega)
    simp only [↓vS,vT,shb,shv,qb,qc,cellsOf,wr,qa,simprocAttr,h60,List.take_length,List.drop_zero]
    intro _
    refine ⟨[0,1,2,3,4,5],?_⟩
    simp [vw,qe,rN,qaY,zk,qq,qd,h1]
    try decide
end Go.Kc
end
section
/- What filter.Set answers, a policy's rows its own. Condition: the functions' texts are these. -/
namespace Go.Kc
variable {P:Program} {f:Nat}
def wz (f_filter_copied f_filter_keys:Nat):ICode:=.seq (.reg false [⟨(some 44),.op (.loadN 13 (.t 2)),none⟩,
    ⟨(some 45),.op (.mov (.t 8)),none⟩,
    ⟨none,.op (.store 13 (.t 4) (.t 44)),none⟩,
    ⟨(some 5),.op (.mov (.t 45)),none⟩])
  (.ret)
def xk (f_filter_copied f_filter_keys:Nat):ICode:=.seq (.seq (.reg false [⟨(some 26),.op (.mov (.t 8)),none⟩,
    ⟨(some 27),.op (.len false (.t 26)),none⟩,
    ⟨(some 28),.op (.mov (.c (.i .i64 0))),none⟩])
  (.blk 0 (.loop (.seq (.reg false [⟨(some 29),.op (.bin .lss (.t 28) (.t 27)),none⟩])
  (.seq (.cond (.t 29) (.skip) (.exit 0))
  (.seq (.blk 1 (.seq (.reg false [⟨(some 30),.op (.mov (.t 28)),none⟩,
    ⟨(some 9),.op (.mov (.t 30)),none⟩])
  (.reg true [⟨(some 31),.op (.mov (.t 8)),none⟩,
    ⟨(some 32),.op (.mov (.t 9)),none⟩,
    ⟨(some 33),.op (.mov (.t 8)),none⟩,
    ⟨(some 34),.op (.mov (.t 9)),none⟩,
    ⟨(some 35),.op (.fAddr 0 (.t 3)),none⟩,
    ⟨(some 36),.op (.load1 (.t 35)),none⟩,
    ⟨(some 37),.op (.fAddr 1 (.t 3)),none⟩,
    ⟨(some 38),.op (.load1 (.t 37)),none⟩,
    ⟨(some 39),.op (.iAddrS 4 (.t 31) (.t 32)),none⟩,
    ⟨(some 40),.op (.fAddr 0 (.t 39)),none⟩,
    ⟨none,.op (.storeD 1 (.t 40) (.t 36) [37]),none⟩,
    ⟨(some 41),.op (.iAddrS 4 (.t 33) (.t 34)),none⟩,
    ⟨(some 42),.op (.fAddr 1 (.t 41)),none⟩,
    ⟨none,.op (.store 1 (.t 42) (.t 38)),none⟩])))
  (.reg false [⟨(some 43),.op (.bin .add (.t 28) (.c (.i .i64 1))),none⟩,
    ⟨(some 28),.op (.mov (.t 43)),none⟩])))))))
  (.cut (wz f_filter_copied f_filter_keys))
def jd (f_filter_copied f_filter_keys:Nat):ICode:=.seq (.reg false [⟨(some 22),.op (.mov (.t 6)),none⟩,
    ⟨(some 23),.op (.fAddr 4 (.t 3)),none⟩,
    ⟨(some 24),.op (.load1 (.t 23)),none⟩,
    ⟨(some 25),.callV (.t 22) [(.t 2),(.t 24)],none⟩,
    ⟨(some 8),.op (.mov (.t 25)),none⟩])
  (.cut (xk f_filter_copied f_filter_keys))
def Qg (f_filter_copied f_filter_keys:Nat):IFn:=⟨[.cell 4 13 true,.tmp 5],
  .seq (.reg false [⟨(some 2),.op (.box (.t 0)),none⟩,
    ⟨(some 3),.op (.box (.t 1)),none⟩,
    ⟨(some 4),.op (.alloc [.nils,.i .u8 0,.nils,.i .u32 0,.i .u8 0,.nils,.nils,.i .u8 0,.i .u64 0,.b false,.b false,.b false,.b false]),none⟩,
    ⟨(some 5),.op (.mov (.c (.nils))),none⟩])
  (.seq (.reg false [⟨(some 10),.op (.loadN 13 (.t 2)),none⟩,
    ⟨(some 11),.callF f_filter_copied [(.t 10)],none⟩,
    ⟨none,.op (.store 13 (.t 2) (.t 11)),none⟩])
  (.seq (.reg true [⟨(some 13),.callF f_filter_keys [],none⟩,
    ⟨(some 14),.op (.fAddr 3 (.t 3)),none⟩,
    ⟨(some 15),.op (.load1 (.t 14)),none⟩,
    ⟨(some 16),.op (.lookM none true (.nilf) (.t 13) (.t 15)),none⟩,
    ⟨(some 12),.op (.mov (.t 16)),none⟩,
    ⟨(some 17),.op (.ext (.t 12) 0),none⟩,
    ⟨(some 18),.op (.ext (.t 12) 1),none⟩,
    ⟨(some 6),.op (.mov (.t 17)),none⟩,
    ⟨(some 7),.op (.mov (.t 18)),none⟩])
  (.seq (.seq (.reg false [⟨(some 19),.op (.mov (.t 7)),none⟩,
    ⟨(some 20),.op (.un .not (.t 19)),none⟩])
  (.cond (.t 20) (.seq (.reg false [⟨(some 21),.op (.loadN 13 (.t 2)),none⟩,
    ⟨none,.op (.store 13 (.t 4) (.t 21)),none⟩,
    ⟨(some 5),.op (.mov (.c (.nils))),none⟩])
  (.ret)) (.skip)))
  (.cut (jd f_filter_copied f_filter_keys)))))⟩
def qiC (E:List UInt8 → List (List UInt8) × Int) (P:Program) (f:Nat):Prop:=∀ (p:Pol) (a:Asg),PolOk p → 0 ≤ p.filter.mode ∧ 0 ≤ p.log.mode → a.val.length ≤ 1000 →
  Own P f [.agg (zV p),.agg (zL a)] (.tup [.agg (qB (xQ E p a.key a.val).1 0 1 2 3),.fz (xQ E p a.key a.val).2.length (rN ((xQ E p a.key a.val).2.map (zF a)))])
    [prA (xQ E p a.key a.val).1,prF (xQ E p a.key a.val).1,prL (xQ E p a.key a.val).1,prM (xQ E p a.key a.val).1]
def qmU (q:Pol) (n:Nat) (l:List GNote):AV → Hp → Prop:=qhC (.tup [.agg (qB q 0 1 2 3),.fz n (rN l)]) [prA q,prF q,prL q,prM q]
theorem qgN (g1 g2:Nat) (q:Pol) (a:Asg) (n:Nat) (l:List GNote) :
    S P 0 (wz g1 g2) (kc [.cell 4 13 true,.tmp 5] (qmU q n l))
      (mkT [(2,.ptr 0 0),(3,.ptr 1 0),(4,.ptr 2 0),(8,.fz n (rN l))]) (mkH 0 [.cells 0 true false (qB q 3 4 5 6),.cells 0 true false (zL a),.cells 0 true false xl,prA q,prF q,prL q,prM q]):=by
  refine qy ?_
  simp only [wz,qB,zL,xl,prA,prF,prL,prM,qmU,qm,H0,mkT,mkH,trL,vI,simprocAttr]
  simp only [↓vS,vT,shb,shv,qb,qc,cellsOf,wr,qa,simprocAttr]
  intro _
  refine ⟨[3,4,5,6],?_⟩
  simp [vw,qe,qj,qd,qq]
theorem qaN (g1 g2:Nat) (q:Pol) (a:Asg) (ns:List GNote) (hn:ns.length ≤ 100000) :
    S P 0 (xk g1 g2) (kc [.cell 4 13 true,.tmp 5] (qmU q ns.length (ns.map (zF a))))
      (mkT [(2,.ptr 0 0),(3,.ptr 1 0),(4,.ptr 2 0),(8,.own 7 ns.length)]) (mkH 0 [.cells 0 true false (qB q 3 4 5 6),.cells 0 true false (zL a),.cells 0 true false xl,prA q,prF q,prL q,prM q,.cells 4 true true (rN ns)]):=by
  refine qy ?_
  simp only [xk,qB,zL,xl,prA,prF,prL,prM,qm,H0,mkT,mkH,trL,vI,simprocAttr]
  simp only [↓vS,vT,shb,shv,qb,qc,cellsOf,wr,qa,simprocAttr]
  refine SL.loop (α:=Nat) (fun j=>[(2,.ptr 0 0),(3,.ptr 1 0),(4,.ptr 2 0),(8,.own 7 ns.length),(27,.i .i64 ns.length),(28,.i .i64 j)])
    (fun j=>[.cells 0 true false (qB q 3 4 5 6),.cells 0 true false (zL a),.cells 0 true false xl,prA q,prF q,prL q,prM q,.cells 4 true true (rN ((ns.take j).map (zF a) ++ ns.drop j))]) (fun j=>j ≤ ns.length) (fun j=>ns.length - j) 0 [0,1,2,3,4,5,6,7] ?_ ?_ ?_ rfl ?_ ?_
  · simp [vw]
  · simp [vw,qB,zL,xl,prA,prF,prL,prM,qe,qj,qd,qq]
    try decide
  · simp
  · exact Nat.zero_le _
  rintro j hj G ih
  simp only [qB,zL,xl,prA,prF,prL,prM,qm,H0,mkT,mkH,trL,vI,simprocAttr]
  by_cases hlt:j < ns.length
  · have hw:IntKind.wrap .i64 ((j:Int) + 1) = ((j + 1:Nat):Int):=by rw [qE (by omega) (by omega)]; omega
    have hx:=qfP (a:=a) hlt
    have hset:=qf3 (a:=a) hlt (zF a ns[j]) rfl
    have ih2:=ih (j + 1)
    rw [← hset] at ih2
    generalize hL:(ns.take j).map (zF a) ++ ns.drop j = L at hx ih2
    have hLl:L.length = ns.length:=by rw [← hL]; simp; omega
    have e0:=qlR hx a.file
    have hx1:(L.set j ⟨a.file,ns[j].line,ns[j].err,ns[j].text⟩)[j]? = some ⟨a.file,ns[j].line,ns[j].err,ns[j].text⟩:=by rw [List.getElem?_set]; simp; omega
    have e1:=ql3 hx1 a.line
    rw [List.set_set] at e1
    have hlen:(rN L).length = ns.length * 4:=by rw [kh,hLl]
    have hlen1:(rN (L.set j ⟨a.file,ns[j].line,ns[j].err,ns[j].text⟩)).length = ns.length * 4:=by rw [kh,List.length_set,hLl]
    have hb0:j * 4 + 1 ≤ ns.length * 4:=by omega
    have hb1:j * 4 + 2 ≤ ns.length * 4:=by omega
    simp only [↓vS,vT,shb,shv,qb,qc,cellsOf,wr,qa,simprocAttr,hlt]
    refine zU ?_
    simp (decide:=true) only [↓vS,vT,shb,shv,qb,qc,cellsOf,wr,qa,simprocAttr,hlt,hlen,hlen1,hb0,hb1,e0,e1,hw]
    refine ih2 (by omega) (by omega) _ _ (Wk.mk _ _ [0,1,2,3,4,5,6,7] ?_ ?_ ?_ rfl)
    · simp [vw]
    · simp [vw,qB,zL,xl,prA,prF,prL,prM,qe,qj,qd,qq,zF]
      try decide
    · simp
  · have hjl:ns.take j = ns:=List.take_of_length_le (by omega)
    have hdl:ns.drop j = []:=List.drop_of_length_le (by omega)
    rw [hjl,hdl,List.append_nil]
    simp (decide:=true) only [↓vS,vT,shb,shv,qb,qc,cellsOf,wr,qa,simprocAttr,hlt]
    refine S.weak (Wk.mk [(2,.ptr 0 0),(3,.ptr 1 0),(4,.ptr 2 0),(8,.own 7 ns.length)] [.cells 0 true false (qB q 3 4 5 6),.cells 0 true false (zL a),.cells 0 true false xl,prA q,prF q,prL q,prM q,.cells 4 true true (rN (ns.map (zF a)))] [0,1,2,3,4,5,6,7] ?_ ?_ ?_ rfl) ?_
    · simp [vw]
    · simp [vw,qB,zL,xl,prA,prF,prL,prM,qe,qj,qd,qq]
      try decide
    · simp
    refine S.weak (Wk.freeze 7 4 4 rfl qj (Nat.zero_le _) (by simp [prA,prF,prL,prM])) ?_
    refine S.weak (Wk.mk _ _ [0,1,2,3,4,5,6] ?_ ?_ ?_ rfl) (qgN g1 g2 q a ns.length (ns.map (zF a)))
    · simp [vw,mkT,fzv,wI,qe,qj]
      intro h0; rw [h0]; rfl
    · simp [vw,mkH,trL,fzB,wI,fzv,qB,zL,xl,prA,prF,prL,prM,qe,kq qd,kq qq,qd,qq]
      try decide
    · simp [mkH]
end Go.Kc
end
section
/- What filter.Set answers, a policy's rows its own: whole. Condition: the functions' texts are these. -/
namespace Go.Kc
variable {P:Program} {f:Nat}
theorem qhQ (g1 g2:Nat) (q:Pol) (a:Asg) (n:GNote) :
    S P 0 (xk g1 g2) (kc [.cell 4 13 true,.tmp 5] (qmU q 1 [zF a n]))
      (mkT [(2,.ptr 0 0),(3,.ptr 1 0),(4,.ptr 2 0),(8,.sl 7 0 1 1 false)]) (mkH 0 [.cells 0 true false (qB q 3 4 5 6),.cells 0 true false (zL a),.cells 0 true false xl,prA q,prF q,prL q,prM q,.cells 0 true false (rN [n])]):=by
  have hw:IntKind.wrap .i64 (0 + 1) = 1:=by decide
  refine qy ?_
  simp only [xk,qB,zL,xl,prA,prF,prL,prM,qfF,qm,H0,mkT,mkH,trL,vI,simprocAttr]
  simp only [↓vS,vT,shb,shv,qb,qc,cellsOf,wr,qa,simprocAttr]
  refine qb3 ?_
  simp (decide:=true) only [↓vS,vT,shb,shv,qb,qc,cellsOf,wr,qa,simprocAttr]
  refine zU ?_
  simp (decide:=true) only [↓vS,vT,shb,shv,qb,qc,cellsOf,wr,qa,simprocAttr,hw]
  refine qb3 ?_
  simp (decide:=true) only [↓vS,vT,shb,shv,qb,qc,cellsOf,wr,qa,simprocAttr]
  refine S.weak (Wk.mk [(2,.ptr 0 0),(3,.ptr 1 0),(4,.ptr 2 0),(8,.sl 7 0 1 1 false)] [.cells 0 true false (qB q 3 4 5 6),.cells 0 true false (zL a),.cells 0 true false xl,prA q,prF q,prL q,prM q,.cells 0 true false (rN [zF a n])] [0,1,2,3,4,5,6,7] ?_ ?_ ?_ rfl) ?_
  · simp [vw]
  · simp [vw,qB,zL,xl,prA,prF,prL,prM,qe,qfF,zF,qd,qq]
    try decide
  · simp
  refine S.weak (Wk.freeze 7 4 0 rfl (by simp [qj]) (Nat.zero_le _) (by simp [prA,prF,prL,prM])) ?_
  refine S.weak (Wk.mk _ _ [0,1,2,3,4,5,6] ?_ ?_ ?_ rfl) (qgN g1 g2 q a 1 [zF a n])
  · simp [vw,mkT,fzv,wI,qfF]
  · simp [vw,mkH,trL,fzB,wI,fzv,qB,zL,xl,prA,prF,prL,prM,qe,kq qd,kq qq,qd,qq]
    try decide
  · simp [mkH]
theorem qrw {g1 g2 l m1 m2 m3 e s0:Nat} {E:List UInt8 → List (List UInt8) × Int} (hc:qh P f (Qg g1 g2) = true) (h1:qcA P g1) (h2:Own P g2 [] (.map 0) [.map (qeZ l m1 m2 m3)])
    (hl:qh P l (z4 s0) = true) (hs:ym E P s0) (hm1:qh P m1 js = true) (hm2:qh P m2 jr = true) (hm3:qh P m3 (z3 e) = true) (he:qbK P e):qiC E P f:=by
  intro p a hp hm hv
  have hpc:=hp.c
  have hpl:=hp.l
  refine Own.mk hc rfl ?_
  generalize hT:kc _ _ = Q
  simp only [Qg,zV,zL,qm,H0,mkT,mkH,trL,vI,simprocAttr]
  simp only [↓vS,vT,shb,shv,qb,qc,cellsOf,wr,qa,simprocAttr]
  refine (h1 p hp).sc ?_
  simp only [vJ,shb,shv,qb,simprocAttr,qB,prA,prF,prL,prM,qY qd,qY qq]
  simp (decide:=true) only [↓vS,vT,shb,shv,qb,qc,cellsOf,wr,qa,simprocAttr]
  refine zU ?_
  simp only [↓vS,vT,shb,shv,qb,qc,cellsOf,wr,qa,simprocAttr]
  refine h2.pc ?_
  simp only [vJ,shb,shv,qb,simprocAttr,qeZ]
  simp only [↓vS,vT,shb,shv,qb,qc,cellsOf,wr,qa,simprocAttr]
  subst hT
  by_cases n0:a.key = Qt
  · have hM:xQ E p a.key a.val = ({ p with filter:=(qR E p.filter a.val true).1 },(qR E p.filter a.val true).2):=by unfold xQ; rw [if_pos n0]
    rw [hM]
    have hlen:=vD (E:=E) p.filter a.val true
    simp only [↓vS,vT,shb,shv,qb,qc,cellsOf,wr,qa,simprocAttr,n0,if_true]
    refine S.weak (Wk.mk [(2,.ptr 0 0),(3,.ptr 1 0),(4,.ptr 2 0),(6,.fn l [] [.pf [.fn m1 [] []] 0,.pf [.b true] 0])] [.cells 0 true false (qB p 3 4 5 6),.cells 0 true false (zL a),.cells 0 true false xl,prA p,prF p,prL p,prM p] [0,1,2,3,4,5,6] ?_ ?_ ?_ rfl) (qy ?_)
    · simp [vw,clo,qC]
    · simp [vw,qB,zL,xl,prA,prF,prL,prM,qe,qd,qq]
      try decide
    · simp
    simp only [jd,qB,zL,xl,prA,prF,prL,prM,qm,H0,mkT,mkH,trL,vI,simprocAttr]
    simp only [↓vS,vT,shb,shv,qb,qc,cellsOf,wr,qa,simprocAttr]
    refine (qiO hl (qkK hm1) hs p a.val true (by omega) hv hm.1).sc (vs:=[.ptr 0 0,.s a.val,.pf [.fn m1 [] []] 0,.pf [.b true] 0]) [0,3,4,5,6] (Lent.of (by decide) ?_) ?_
    · simp [vL,shb,shv,qb,zZ,bnd,zG,rnv,gAt,vw,xA,qB,prA,prF,prL,prM,xc,clo,qC,zd,qX qd,qX qq,qv qd,qv qq]
    simp only [vK,xa,rnb,zG,rnv,gAt,simprocAttr,qgL,qB,prA,prF,prL,prM,qv qj,qv qd,qv qq,zd,clo]
    simp only [↓vS,vT,shb,shv,qb,qc,cellsOf,wr,qa,simprocAttr]
    refine S.weak (Wk.mk _ _ [0,1,2,3,7,5,6,8] ?_ ?_ ?_ rfl) (qaN g1 g2 { p with filter:=(qR E p.filter a.val true).1 } a (qR E p.filter a.val true).2 (by omega))
    · simp [vw]
    · simp [vw,qB,zL,xl,prA,prF,prL,prM,qe,qj,qd,qq]
      try decide
    · simp
  by_cases n1:a.key = qhP
  · have hM:xQ E p a.key a.val = ({ p with log:=(qR E p.log a.val false).1 },(qR E p.log a.val false).2):=by unfold xQ; rw [if_neg n0,if_pos n1]
    rw [hM]
    have hlen:=vD (E:=E) p.log a.val false
    simp only [↓vS,vT,shb,shv,qb,qc,cellsOf,wr,qa,simprocAttr,n0,n1,if_true]
    refine S.weak (Wk.mk [(2,.ptr 0 0),(3,.ptr 1 0),(4,.ptr 2 0),(6,.fn l [] [.pf [.fn m2 [] []] 0,.pf [.b false] 0])] [.cells 0 true false (qB p 3 4 5 6),.cells 0 true false (zL a),.cells 0 true false xl,prA p,prF p,prL p,prM p] [0,1,2,3,4,5,6] ?_ ?_ ?_ rfl) (qy ?_)
    · simp [vw,clo,qC]
    · simp [vw,qB,zL,xl,prA,prF,prL,prM,qe,qd,qq]
      try decide
    · simp
    simp only [jd,qB,zL,xl,prA,prF,prL,prM,qm,H0,mkT,mkH,trL,vI,simprocAttr]
    simp only [↓vS,vT,shb,shv,qb,qc,cellsOf,wr,qa,simprocAttr]
    refine (qkk hl (qlw hm2) hs p a.val false (by omega) hv hm.2).sc (vs:=[.ptr 0 0,.s a.val,.pf [.fn m2 [] []] 0,.pf [.b false] 0]) [0,3,4,5,6] (Lent.of (by decide) ?_) ?_
    · simp [vL,shb,shv,qb,zZ,bnd,zG,rnv,gAt,vw,xA,qB,prA,prF,prL,prM,xc,clo,qC,zd,qX qd,qX qq,qv qd,qv qq]
    simp only [vK,xa,rnb,zG,rnv,gAt,simprocAttr,qgl,qB,prA,prF,prL,prM,qv qj,qv qd,qv qq,zd,clo]
    simp only [↓vS,vT,shb,shv,qb,qc,cellsOf,wr,qa,simprocAttr]
    refine S.weak (Wk.mk _ _ [0,1,2,3,4,7,6,8] ?_ ?_ ?_ rfl) (qaN g1 g2 { p with log:=(qR E p.log a.val false).1 } a (qR E p.log a.val false).2 (by omega))
    · simp [vw]
    · simp [vw,qB,zL,xl,prA,prF,prL,prM,qe,qj,qd,qq]
      try decide
    · simp
  by_cases n2:a.key = qfH
  · simp only [↓vS,vT,shb,shv,qb,qc,cellsOf,wr,qa,simprocAttr,n0,n1,n2,if_true]
    refine S.weak (Wk.mk [(2,.ptr 0 0),(3,.ptr 1 0),(4,.ptr 2 0),(6,.fn m3 [] [])] [.cells 0 true false (qB p 3 4 5 6),.cells 0 true false (zL a),.cells 0 true false xl,prA p,prF p,prL p,prM p] [0,1,2,3,4,5,6] ?_ ?_ ?_ rfl) (qy ?_)
    · simp [vw,clo,qC]
    · simp [vw,qB,zL,xl,prA,prF,prL,prM,qe,qd,qq]
      try decide
    · simp
    simp only [jd,qB,zL,xl,prA,prF,prL,prM,qm,H0,mkT,mkH,trL,vI,simprocAttr]
    simp only [↓vS,vT,shb,shv,qb,qc,cellsOf,wr,qa,simprocAttr]
    by_cases hz:(jG a.val).2 = 0
    · have hM:xQ E p a.key a.val = ({ p with deny:=(jG a.val).1 },[]):=by unfold xQ; rw [if_neg n0,if_neg n1,if_pos n2,if_pos hz]
      rw [hM]
      refine (qgc hm3 he p a.val hv hz).sc (vs:=[.ptr 0 0,.s a.val]) [0,3,4,5,6] (Lent.of (by decide) ?_) ?_
      · simp [vL,shb,shv,qb,zZ,bnd,zG,rnv,gAt,vw,xA,qB,prA,prF,prL,prM,xc,clo,qC,zd,qX qd,qX qq,qv qd,qv qq]
      simp only [vK,xa,rnb,zG,rnv,gAt,simprocAttr,xA,qB,prA,prF,prL,prM,qv qd,qv qq,zd,clo]
      simp only [↓vS,vT,shb,shv,qb,qc,cellsOf,wr,qa,simprocAttr]
      refine S.weak (Wk.mk _ _ [0,1,2,3,4,5,6,7] ?_ ?_ ?_ rfl) (qaN g1 g2 { p with deny:=(jG a.val).1 } a [] (by simp))
      · simp [vw]
      · simp [vw,qB,zL,xl,prA,prF,prL,prM,qe,qbz,qd,qq]
        try decide
      · simp
    · have hM:xQ E p a.key a.val = (p,[zk (jG a.val).2 a.val]):=by unfold xQ; rw [if_neg n0,if_neg n1,if_pos n2,if_neg hz]
      rw [hM]
      refine (qfC hm3 he p a.val hv hz).sc (vs:=[.ptr 0 0,.s a.val]) [0,3,4,5,6] (Lent.of (by decide) ?_) ?_
      · simp [vL,shb,shv,qb,zZ,bnd,zG,rnv,gAt,vw,xA,qB,prA,prF,prL,prM,xc,clo,qC,zd,qX qd,qX qq,qv qd,qv qq]
      simp only [vK,xa,rnb,zG,rnv,gAt,simprocAttr,xA,qB,prA,prF,prL,prM,qv qj,qv qd,qv qq,zd,clo]
      simp only [↓vS,vT,shb,shv,qb,qc,cellsOf,wr,qa,simprocAttr]
      refine S.weak (Wk.mk _ _ [0,1,2,3,4,5,6,7] ?_ ?_ ?_ rfl) (qhQ g1 g2 p a (zk (jG a.val).2 a.val))
      · simp [vw]
      · simp [vw,qB,zL,xl,prA,prF,prL,prM,qe,qj,qd,qq]
        try decide
      · simp
  · have hM:xQ E p a.key a.val = (p,[]):=by unfold xQ; rw [if_neg n0,if_neg n1,if_neg n2]
    rw [hM]
    simp only [↓vS,vT,shb,shv,qb,qc,cellsOf,wr,qa,simprocAttr,n0,n1,n2,if_false]
    intro _
    refine ⟨[3,4,5,6],?_⟩
    simp [vw,qa,qB,prA,prF,prL,prM,qe,qd,qq,rN]
end Go.Kc
end
section
/- FilterOwn: what the law answers. Condition: the functions' texts are these. -/
namespace Go.Kc
variable {P:Program} {f:Nat}
def qoU (P:Program) (f:Nat):Prop:=∀ l:GList,l.calls.length ≤ 100000 → qg P f [.agg (qk l),.agg (qk l)] (.b true)
end Go.Kc
end
section
/- FoldLists: what the law answers. Condition: the functions' texts are these. -/
namespace Go.Kc
variable {P:Program} {f:Nat}
def qq1 (P:Program) (f:Nat):Prop:=∀ (l:GList) (s:List UInt8) (n:Int),l.calls.length ≤ 100000 → ku P f [.agg (qk l),.s s,.i .u32 n] (.agg [.i .u8 (wZ l s n).mode,.own 0 (wZ l s n).calls.length]) [.cells 2 true true (rC (wZ l s n).calls)]
def qpp (P:Program) (f:Nat):Prop:=∀ (l:GList) (s:List UInt8),l.calls.length ≤ 100000 → ku P f [.agg (qk l),.s s] (.agg [.i .u8 (jF l s).mode,.own 0 (jF l s).calls.length]) [.cells 2 true true (rC (jF l s).calls)]
def qqr (c:GCall):GCall:=⟨[103,111,110,101],c.act⟩
theorem qk6 {L:List GCall} {j:Nat} {c:GCall} (h:L[j]? = some c) (s:List UInt8):(rC L).take (j * 2) ++ (AV.s s :: (rC L).drop (j * 2 + 1)) = rC (L.set j ⟨s,c.act⟩):=by
  obtain ⟨hj,hc⟩:=List.getElem?_eq_some_iff.1 h
  have e1:L = L.take j ++ c :: L.drop (j + 1):=by rw [← hc,← List.drop_eq_getElem_cons hj,List.take_append_drop]
  have hl:(rC (L.take j)).length = j * 2:=by rw [xL,List.length_take]; omega
  have e2:rC L = rC (L.take j) ++ (AV.s c.name :: AV.i .u32 c.act :: rC (L.drop (j + 1))):=by conv=>lhs; rw [e1,← yR,kE]
  rw [List.set_eq_take_append_cons_drop,if_pos hj,← yR,kE,e2,List.take_left' hl,← List.drop_drop,List.drop_left' hl]
  rfl
end Go.Kc
end
section
/- FoldSteps: what the law answers. Condition: the functions' texts are these. -/
namespace Go.Kc
variable {P:Program} {f:Nat}
end Go.Kc
end
