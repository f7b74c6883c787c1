/- Part 7 of the abstract machine and of the functions' walks. Conditions: with each theorem. -/
import Derived.Test.YtpopmjgimhmciaaGreatDoorK6
set_option linter.unusedSimpArgs false
set_option linter.unusedVariables false
set_option linter.unnecessarySimpa false
section
/- What the setter's methods do: notes, yes and no. Condition: the functions' texts are these. -/
namespace Go.Kc
variable {P:Program} {f:Nat}
def qgU:IFn:=⟨[],.reg true [.n 6 0,.n 7 0,.q 8 (.nilChk (.t 7)),.f 9 13 8,.d 10 9,.n 11 0,.q 12 (.nilChk (.t 11)),.f 13 14 12,.f 14 0 13,.d 15 14,.n 16 0,.q 17 (.nilChk (.t 16)),.f 18 14 17,.f 19 1 18,.d 20 19,.n 21 1,.n 22 2,.n 23 2,.q 24 (.len true (.t 23)),.q 25 (.min (.t 24) (.k 60)),.q 26 (.slcStr (.t 22) none (some (.t 25))),.q 27 (.build [.s [],.i .i64 0,.i .i64 0,.s []] [(0,1,(.t 15)),(1,1,(.t 20)),(2,1,(.t 21)),(3,1,(.t 26))]),.q 28 (.buildS 1 [.s [],.i .i64 0,.i .i64 0,.s []] [(0,4,(.t 27))]),.q 29 (.app 4 48 true (.t 10) (.t 28)),.q 30 (.nilChk (.t 6)),.f 31 13 30,.u (.store 1 (.t 31) (.t 29))]⟩
def qgV(a b:Nat):IFn:=⟨[],.seq (.seq (.r [.n 8 1,.q 9 (.bin .eql (.t 8) (.c (.s [])))]) (.cond (.t 9) (.seq (.r [.n 10 2,.q 11 (.nilChk (.t 10)),.u (.store 1 (.t 11) .F)]) (.ret)) (.skip))) (.seq (.r [.n 13 1,.l 14 a [.t 13],.n 12 14,.x 15 12 0,.x 16 12 1,.n 6 15,.n 7 16]) (.seq (.seq (.r [.n 17 7,.w 18 .neq 17 0]) (.cond (.t 18) (.seq (.r [.n 19 0,.n 20 7,.n 21 1,.l 22 b [.t 19,.t 20,.t 21]]) (.ret)) (.skip))) (.r [.n 23 2,.n 24 6,.q 25 (.nilChk (.t 23)),.u (.store 1 (.t 25) (.t 24))])))⟩
end Go.Kc
end
section
/- What the setter's methods do: yes and no by their keys; architectures. Condition: the functions' texts are these. -/
namespace Go.Kc
variable {P:Program} {f:Nat}
def qeG(a:Nat):IFn:=⟨[],.r [.n 4 0,.n 5 1,.n 6 0,.q 7 (.nilChk (.t 6)),.f 8 0 7,.f 9 9 8,.l 10 a [.t 4,.t 5,.t 9]]⟩
def qeR(a:Nat):IFn:=⟨[],.r [.n 4 0,.n 5 1,.n 6 0,.q 7 (.nilChk (.t 6)),.f 8 0 7,.f 9 10 8,.l 10 a [.t 4,.t 5,.t 9]]⟩
def qfI(a:Nat):IFn:=⟨[],.r [.n 4 0,.n 5 1,.n 6 0,.q 7 (.nilChk (.t 6)),.f 8 0 7,.f 9 11 8,.l 10 a [.t 4,.t 5,.t 9]]⟩
def qeF(a:Nat):IFn:=⟨[],.r [.n 4 0,.n 5 1,.n 6 0,.q 7 (.nilChk (.t 6)),.f 8 0 7,.f 9 12 8,.l 10 a [.t 4,.t 5,.t 9]]⟩
def qgC(a b c d:Nat):IFn:=⟨[],.seq (.r [.n 9 1,.l 10 a [.t 9],.n 4 10]) (.seq (.seq (.r [.n 11 4,.e 12 11,.w 13 .eql 12 0]) (.cond (.t 13) (.r [.n 14 0,.q 15 (.nilChk (.t 14)),.f 16 0 15,.f 17 0 16,.u (.store 1 (.t 17) .N)]) (.skip))) (.seq (.r [.n 18 4,.e 19 18,.m 20 (.k 0)]) (.blk 0 (.loop (.seq (.r [.s 21 20 19]) (.seq (.cond (.t 21) (.skip) (.exit 0)) (.seq (.blk 1 (.seq (.r [.i 22 1 18 20,.d 23 22,.n 6 23]) (.seq (.r [.n 25 6,.l 26 b [.t 25],.n 24 26,.x 27 24 0,.x 28 24 1,.n 7 27,.n 8 28]) (.seq (.r [.n 29 8,.w 30 .neq 29 0]) (.cond (.t 30) (.r [.n 31 0,.n 32 8,.n 33 6,.l 34 c [.t 31,.t 32,.t 33]]) (.r [.n 35 0,.n 36 0,.q 37 (.nilChk (.t 36)),.f 38 0 37,.f 39 0 38,.d 40 39,.n 41 7,.l 42 d [.t 40,.t 41,.T],.q 43 (.nilChk (.t 35)),.f 44 0 43,.f 45 0 44,.u (.store 1 (.t 45) (.t 42))])))))) (.r [.a 46 20 1,.n 20 46]))))))))⟩
end Go.Kc
end
section
/- What the setter makes of families. Condition: the functions' texts are these. -/
namespace Go.Kc
variable {P:Program} {f:Nat}
def qqA(s:List UInt8)(no:Int):List (List UInt8×Int)->Int×Int
 | []=>(0,no)
 | p::l=>if p.1=s then (p.2,0) else qqA s no l
def qfn:List UInt8:=[110,111,110,101]
def qaz(a b c d e:Nat):ICode:=.seq (.r [.n 63 4,.l 64 b [.t 63],.e 65 64,.m 66 (.k 0)]) (.blk 1 (.loop (.seq (.r [.s 67 66 65]) (.seq (.cond (.t 67) (.skip) (.exit 1)) (.seq (.blk 2 (.seq (.r [.i 68 1 64 66,.d 69 68,.n 8 69]) (.seq (.r [.n 71 8,.l 72 c [.t 71],.n 70 72,.x 73 70 0,.x 74 70 1,.n 9 73,.n 10 74]) (.seq (.r [.n 75 10,.w 76 .neq 75 0]) (.cond (.t 76) (.r [.n 77 0,.n 78 10,.n 79 8,.l 80 d [.t 77,.t 78,.t 79]]) (.reg true [.n 81 0,.n 82 0,.q 83 (.nilChk (.t 82)),.f 84 0 83,.f 85 6 84,.d 86 85,.n 87 9,.n 88 5,.n 89 0,.q 90 (.nilChk (.t 89)),.f 91 0 90,.f 92 7 91,.d 93 92,.q 94 (.bin .eql (.t 93) (.c (.i .u8 2))),.q 95 (.eqB false (.t 88) (.t 94)),.l 96 e [.t 86,.t 87,.t 95],.q 97 (.nilChk (.t 81)),.f 98 0 97,.f 99 6 98,.u (.store 1 (.t 99) (.t 96))])))))) (.r [.a 100 66 1,.n 66 100]))))))
def qfH(a b c d e:Nat):IFn:=⟨[],.seq (.r [.n 12 1,.l 13 a [.t 12],.n 11 13,.x 14 11 0,.x 15 11 1,.n 4 14,.n 5 15]) (.seq (.seq (.r [.n 16 1,.l 17 b [.t 16],.n 6 17]) (.blk 0 (.seq (.r [.n 19 6,.e 20 19,.w 21 .eql 20 0,.n 18 21]) (.cond (.t 18) (.seq (.r [.n 22 0,.n 23 0,.q 24 (.nilChk (.t 22)),.f 25 0 24,.f 26 6 25,.u (.store 1 (.t 26) .N),.q 27 (.nilChk (.t 23)),.f 28 0 27,.f 29 7 28,.u (.store 1 (.t 29) (.c (.i .u8 0)))]) (.ret)) (.seq (.r [.n 31 6,.e 32 31,.w 33 .eql 32 1,.n 34 33,.y 35 6 34,.g 36 (.iAddrS 1 (.t 35) (.k 0)) 34 true,.j 37 36 34 true,.g 38 (.bin .eql (.t 37) (.c (.s [110,111,110,101]))) 34 true,.p 39 34 38,.n 30 39]) (.cond (.t 30) (.seq (.r [.n 40 0,.n 41 0,.q 42 (.nilChk (.t 40)),.f 43 0 42,.f 44 6 43,.u (.store 1 (.t 44) .N),.q 45 (.nilChk (.t 41)),.f 46 0 45,.f 47 7 46,.u (.store 1 (.t 47) (.c (.i .u8 1)))]) (.ret)) (.skip))))))) (.seq (.seq (.r [.n 48 0,.q 49 (.nilChk (.t 48)),.f 50 0 49,.f 51 7 50,.d 52 51,.q 53 (.bin .eql (.t 52) (.c (.i .u8 0)))]) (.cond (.t 53) (.seq (.r [.n 54 0,.q 55 (.nilChk (.t 54)),.f 56 0 55,.f 57 7 56,.u (.store 1 (.t 57) (.c (.i .u8 1)))]) (.seq (.r [.n 58 5]) (.cond (.t 58) (.r [.n 59 0,.q 60 (.nilChk (.t 59)),.f 61 0 60,.f 62 7 61,.u (.store 1 (.t 62) (.c (.i .u8 2)))]) (.skip)))) (.skip))) (.cut (qaz a b c d e))))⟩
end Go.Kc
end
section
/- What the setter makes of namespaces. Condition: the functions' texts are these. -/
namespace Go.Kc
variable {P:Program} {f:Nat}
def spM(s:List UInt8):Int×Int:=qqA s 181 qg
def qtk(s:Int×List (Int×List UInt8))(w:List UInt8):Int×List (Int×List UInt8) :=
 (orI .u64 s.1 (spM w).1,if (spM w).2=0 then s.2 else s.2++[((spM w).2,w)])
def qaa(a b c d e g:Nat):ICode:=.seq (.r [.m 8 (.c (.i .u64 0)),.m 9 .T]) (.seq (.seq (.r [.n 44 6,.l 45 a [.t 44],.e 46 45,.m 47 (.k 0)]) (.blk 0 (.loop (.seq (.r [.s 48 47 46]) (.seq (.cond (.t 48) (.skip) (.exit 0)) (.seq (.blk 1 (.seq (.r [.i 49 1 45 47,.d 50 49,.n 11 50]) (.seq (.r [.n 52 11,.l 53 e [.t 52],.n 51 53,.x 54 51 0,.x 55 51 1,.n 12 54,.n 13 55]) (.seq (.seq (.r [.n 56 13,.w 57 .neq 56 0]) (.cond (.t 57) (.seq (.r [.n 58 0,.n 59 13,.n 60 11,.l 61 g [.t 58,.t 59,.t 60]]) (.r [.m 9 .F])) (.skip))) (.r [.n 62 8,.n 63 12,.b 64 .or 62 63,.n 8 64]))))) (.r [.a 65 47 1,.n 47 65]))))))) (.blk 2 (.seq (.r [.n 67 9,.n 68 67,.y 69 7 68,.p 70 68 69,.n 66 70]) (.cond (.t 66) (.r [.n 71 0,.n 72 8,.q 73 (.nilChk (.t 71)),.f 74 0 73,.f 75 8 74,.u (.store 1 (.t 75) (.t 72))]) (.seq (.r [.n 77 9,.n 76 77]) (.cond (.t 76) (.r [.n 78 0,.l 79 c [],.n 80 8,.b 81 .andNot 79 80,.q 82 (.nilChk (.t 78)),.f 83 0 82,.f 84 8 83,.u (.store 1 (.t 84) (.t 81))]) (.skip)))))))
def qfb(a b c d e g:Nat):IFn:=⟨[],.seq (.seq (.r [.n 14 1,.l 15 a [.t 14],.e 16 15,.w 17 .eql 16 0]) (.cond (.t 17) (.seq (.r [.n 18 0,.q 19 (.nilChk (.t 18)),.f 20 0 19,.f 21 8 20,.u (.store 1 (.t 21) (.c (.i .u64 0)))]) (.ret)) (.skip))) (.seq (.seq (.r [.n 23 1,.l 24 b [.t 23],.n 22 24,.x 25 22 0,.x 26 22 1,.n 4 25,.n 5 26]) (.seq (.r [.n 27 5,.w 28 .eql 27 0]) (.cond (.t 28) (.seq (.r [.n 29 0,.q 30 (.nilChk (.t 29)),.f 31 0 30,.f 32 8 31,.u (.store 1 (.t 32) (.c (.i .u64 0)))]) (.seq (.seq (.r [.n 33 4]) (.cond (.t 33) (.r [.n 34 0,.l 35 c [],.q 36 (.nilChk (.t 34)),.f 37 0 36,.f 38 8 37,.u (.store 1 (.t 38) (.t 35))]) (.skip))) (.ret))) (.skip)))) (.seq (.r [.n 40 1,.l 41 d [.t 40],.n 39 41,.x 42 39 0,.x 43 39 1,.n 6 42,.n 7 43]) (.cut (qaa a b c d e g))))⟩
end Go.Kc
end
section
/- What restrict.Set answers. Condition: the functions' texts are these. -/
namespace Go.Kc
variable {P:Program} {f:Nat}
theorem qlU.pure{g esz by':Nat}(h:qlU P g esz by'){n:Nat}{rows:List AV}(hl:rows.length=n*esz)(hc:qG rows=true)(ho:qz rows=true)(h1:n<=qf)(h2:n*by'<=qf):qe P g [.fz n rows] (.fz n rows):=by
 refine (h n rows hl hc ho h1 h2).pure (by simp[qG,clo]) ?_;refine .own 0 n esz true rows rows ?_ (fun h0=>?_) (Frzs.self hc)
 ·simp[jv,Hp.push,shb,H0,Tr.get_set,qce hc]
 ·subst h0;exact List.eq_nil_of_length_eq_zero (by omega)
structure PolOk (p:Pol):Prop where
 a:p.arches.length<=1000
 f:p.fams.length<=1000
 c:p.filter.calls.length<=1000
 l:p.log.calls.length<=1000
def qjs(P:Program)(f:Nat):Prop:=∀p,PolOk p->qe P f [.agg (qj p)] (.agg (qj p))
def qi7(a b c:Nat):IFn:=⟨[.cell 2 13 true],.seq (.r [.q 1 (.box (.t 0)),.q 2 (.alloc [.nils,.i .u8 0,.nils,.i .u32 0,.i .u8 0,.nils,.nils,.i .u8 0,.i .u64 0,.b false,.b false,.b false,.b false])]) (.seq (.r [.f 3 0 1,.d 4 3,.l 5 a [.t 4],.f 6 0 1,.u (.store 1 (.t 6) (.t 5))]) (.seq (.r [.f 7 6 1,.d 8 7,.l 9 b [.t 8],.f 10 6 1,.u (.store 1 (.t 10) (.t 9))]) (.seq (.r [.f 11 1 1,.f 12 1 11,.d 13 12,.l 14 c [.t 13],.f 15 1 1,.f 16 1 15,.u (.store 1 (.t 16) (.t 14))]) (.seq (.r [.f 17 4 1,.f 18 1 17,.d 19 18,.l 20 c [.t 19],.f 21 4 1,.f 22 1 21,.u (.store 1 (.t 22) (.t 20))]) (.seq (.r [.v 23 13 1,.u (.store 13 (.t 2) (.t 23))]) (.ret))))))⟩
def qkw(a b c:Nat):IFn:=⟨[.cell 2 13 true],.seq (.r [.q 1 (.box (.t 0)),.q 2 (.alloc [.nils,.i .u8 0,.nils,.i .u32 0,.i .u8 0,.nils,.nils,.i .u8 0,.i .u64 0,.b false,.b false,.b false,.b false])]) (.seq (.r [.f 3 0 1,.d 4 3,.l 5 a [.t 4],.f 6 0 1,.u (.store 1 (.t 6) (.t 5))]) (.seq (.r [.f 7 6 1,.d 8 7,.l 9 b [.t 8],.f 10 6 1,.u (.store 1 (.t 10) (.t 9))]) (.seq (.r [.f 11 1 1,.f 12 1 11,.d 13 12,.l 14 c [.t 13],.f 15 1 1,.f 16 1 15,.u (.store 1 (.t 16) (.t 14))]) (.seq (.r [.f 17 4 1,.f 18 1 17,.d 19 18,.l 20 c [.t 19],.f 21 4 1,.f 22 1 21,.u (.store 1 (.t 22) (.t 20))]) (.seq (.r [.v 23 13 1,.u (.store 13 (.t 2) (.t 23))]) (.ret))))))⟩
def qkB(a b c d e g h:Nat):IFn:=⟨[.tmp 0],.seq (.r [.m 0 (.c (.nilm))]) (.seq (.r [.q 1 (.mkM),.u (.updM none (.t 1) (.c (.s [83,121,115,116,101,109,67,97,108,108,65,114,99,104,105,116,101,99,116,117,114,101,115])) (.c (.fn a [] []))),.u (.updM none (.t 1) (.c (.s [82,101,115,116,114,105,99,116,65,100,100,114,101,115,115,70,97,109,105,108,105,101,115])) (.c (.fn b [] []))),.u (.updM none (.t 1) (.c (.s [82,101,115,116,114,105,99,116,78,97,109,101,115,112,97,99,101,115])) (.c (.fn c [] []))),.u (.updM none (.t 1) (.c (.s [77,101,109,111,114,121,68,101,110,121,87,114,105,116,101,69,120,101,99,117,116,101])) (.c (.fn d [] []))),.u (.updM none (.t 1) (.c (.s [76,111,99,107,80,101,114,115,111,110,97,108,105,116,121])) (.c (.fn e [] []))),.u (.updM none (.t 1) (.c (.s [82,101,115,116,114,105,99,116,82,101,97,108,116,105,109,101])) (.c (.fn g [] []))),.u (.updM none (.t 1) (.c (.s [78,111,78,101,119,80,114,105,118,105,108,101,103,101,115])) (.c (.fn h [] []))),.n 2 1,.n 0 2]) (.ret))⟩
def qff:List UInt8:=[83,121,115,116,101,109,67,97,108,108,65,114,99,104,105,116,101,99,116,117,114,101,115]
def qaQ:List UInt8:=[82,101,115,116,114,105,99,116,65,100,100,114,101,115,115,70,97,109,105,108,105,101,115]
def kSp:List UInt8:=[82,101,115,116,114,105,99,116,78,97,109,101,115,112,97,99,101,115]
def kWe:List UInt8:=[77,101,109,111,114,121,68,101,110,121,87,114,105,116,101,69,120,101,99,117,116,101]
def kPe:List UInt8:=[76,111,99,107,80,101,114,115,111,110,97,108,105,116,121]
def kRt:List UInt8:=[82,101,115,116,114,105,99,116,82,101,97,108,116,105,109,101]
def kNp:List UInt8:=[78,111,78,101,119,80,114,105,118,105,108,101,103,101,115]
end Go.Kc
end
section
/- What restrict.Set and restrict.Key answer. Condition: the functions' texts are these. -/
namespace Go.Kc
variable {P:Program} {f:Nat}
def qdU(a b:Nat):ICode:=.seq (.reg true [.n 27 6,.q 28 (.nilChk (.t 27)),.f 29 0 28,.v 30 13 29,.n 31 6,.q 32 (.nilChk (.t 31)),.f 33 13 32,.d 34 33,.u (.storeD 13 (.t 4) (.t 30) [33]),.n 5 34]) (.ret)
def qdT(a b:Nat):ICode:=.seq (.seq (.reg true [.l 15 b [],.f 16 3 3,.d 17 16,.q 18 (.lookM none true (.nilf) (.t 15) (.t 17)),.n 14 18,.x 19 14 0,.x 20 14 1,.n 7 19,.n 8 20]) (.seq (.r [.n 21 8]) (.cond (.t 21) (.r [.n 22 7,.n 23 6,.f 24 4 3,.d 25 24,⟨(some 26),.callV (.t 22) [.t 23,.t 25],none⟩]) (.skip)))) (.cut (qdU a b))
def qlo(a b:Nat):IFn:=⟨[.cell 4 13 true,.tmp 5],.seq (.r [.q 2 (.box (.t 0)),.q 3 (.box (.t 1)),.q 4 (.alloc [.nils,.i .u8 0,.nils,.i .u32 0,.i .u8 0,.nils,.nils,.i .u8 0,.i .u64 0,.b false,.b false,.b false,.b false]),.m 5 .N]) (.seq (.reg true [.v 9 13 2,.l 10 a [.t 9],.v 11 5 3,.q 12 (.build [.nils,.i .u8 0,.nils,.i .u32 0,.i .u8 0,.nils,.nils,.i .u8 0,.i .u64 0,.b false,.b false,.b false,.b false,.nils,.s [],.i .i64 0,.s [],.s [],.s []] [(0,13,(.t 10)),(14,5,(.t 11))]),.q 13 (.box (.t 12)),.n 6 13]) (.cut (qdT a b)))⟩
end Go.Kc
end
section
/- The law RestrictSpaces. Condition: the functions' texts are these. -/
namespace Go.Kc
variable {P:Program} {f:Nat}
end Go.Kc
end
section
/- What a setter leaves: lists that rise still rise, only the named field differs, every note tells of a fault. No condition. -/
namespace Go.Kc
def qui(p:Pol):Prop:=p.arches.Pairwise (· < ·)∧p.fams.Pairwise (· < ·)
instance (p:Pol):Decidable (qui p):=inferInstanceAs (Decidable (_∧_))
end Go.Kc
end
section
/- What the small functions of the law RestrictOwn answer. Condition: the functions' texts are these. -/
namespace Go.Kc
variable {P:Program} {f:Nat}
theorem qf3{h:Hp}{b:Nat}:Frz h (.sl b 0 0 0 false) (.fz 0 [])↔evB (h.tr.get b) (fun z=>jC z (fun _ w _ _=>w=true)):=by
 constructor
 ·intro hh;cases hh with
  | sl _ _ _ _ _ e af cs m cs' hb=>exact⟨_,hb,rfl⟩
 ·rintro⟨z,hz,h2⟩;cases z with
  | cells e w af ys =>
   cases h2;exact .sl b 0 0 0 false e af ys 0 [] hz (Nat.le_refl _) (Nat.zero_le _) (fun _=>rfl) .nil
  | dead=>exact h2.elim
  | map es=>exact h2.elim
theorem qs6{q:IntKind}{l:List Int}:(l=[]->rI q l=[])↔True:=iff_true_intro fun h=>by rw[h];rfl
theorem qwI{l:List GCall}:(l=[]->rC l=[])↔True:=iff_true_intro fun h=>by rw[h];rfl
def wc:IFn:=⟨[.tmp 2],.seq (.r [.q 1 (.box (.t 0)),.m 2 .F]) (.seq (.r [.f 3 1 1,.d 4 3,.e 5 4,.w 6 .gtr 5 100,.n 2 6]) (.ret))⟩
def qaZ(l:GList):Bool:=decide (100<l.calls.length)
theorem qpd(hc:qt P f wc=true)(l:GList):qe P f [.agg (qu l)] (.b (qaZ l)):=by
 refine qe.mk hc rfl ?_;simp only[wc,qu,vI,simprocAttr]
 by_cases h:(100:Int)<l.calls.length
 ·have h':100<l.calls.length:=by omega
  simp only[↓vS,vT,simprocAttr,h,qaZ,h',vZ]
 ·have h':¬100<l.calls.length:=by omega
  simp only[↓vS,vT,simprocAttr,h,qaZ,h',vZ]
def wd(a:Nat):IFn:=⟨[.tmp 4],.seq (.r [.q 2 (.box (.t 0)),.q 3 (.box (.t 1)),.m 4 .F]) (.seq (.r [.f 5 0 2,.d 6 5,.e 7 6,.w 8 .gtr 7 20,.n 9 8,.h 10 6 2 9 false,.j 11 10 9 false,.g 12 (.len false (.t 11)) 9 false,.g 13 (.bin .gtr (.t 12) (.k 20)) 9 false,.o 14 9 13,.n 15 14,.h 16 1 2 15 false,.g 17 (.loadN 2 (.t 16)) 15 false,⟨(some 18),.callF a [.t 17],(some (15,false))⟩,.o 19 15 18,.n 20 19,.h 21 4 2 20 false,.g 22 (.loadN 2 (.t 21)) 20 false,⟨(some 23),.callF a [.t 22],(some (20,false))⟩,.o 24 20 23,.n 25 24,.h 26 4 3 25 false,.j 27 26 25 false,.g 28 (.len true (.t 27)) 25 false,.g 29 (.bin .gtr (.t 28) (.k 1000)) 25 false,.o 30 25 29,.n 31 30,.h 32 3 3 31 false,.j 33 32 31 false,.g 34 (.len true (.t 33)) 31 false,.g 35 (.bin .gtr (.t 34) (.k 200)) 31 false,.o 36 31 35,.n 37 36,.h 38 0 3 37 false,.j 39 38 37 false,.g 40 (.len true (.t 39)) 37 false,.g 41 (.bin .gtr (.t 40) (.k 200)) 37 false,.o 42 37 41,.n 4 42]) (.ret))⟩
def xV(p:Pol)(a:Asg):Bool:=decide (20<p.arches.length)||decide (20<p.fams.length)||qaZ p.filter||qaZ p.log||decide (1000<a.val.length)||decide (200<a.key.length)||decide (200<a.file.length)
theorem qpe{g:Nat}(hc:qt P f (wd g)=true)(hg:∀l,qe P g [.agg (qu l)] (.b (qaZ l)))(p:Pol)(a:Asg):qe P f [.agg (qj p),.agg (qlT a)] (.b (xV p a)):=by
 have cast:∀(n m:Nat),((n:Int)<(m:Int))=(n<m):=fun n m=>by simp
 refine qe.mk hc rfl ?_;simp only[wd,qj,qlT,vI,simprocAttr]
 by_cases h1:(20:Int)<p.arches.length
 ·have h1':20<p.arches.length:=by omega
  simp only[↓vS,vT,simprocAttr,h1,xV,h1',vZ];simp
 have h1':¬20<p.arches.length:=by omega
 by_cases h2:(20:Int)<p.fams.length
 ·have h2':20<p.fams.length:=by omega
  simp only[↓vS,vT,simprocAttr,h1,h2,xV,h1',h2',vZ];simp
 have h2':¬20<p.fams.length:=by omega
 simp only[↓vS,vT,simprocAttr,h1,h2];refine (hg p.filter).sc ?_;cases h3:qaZ p.filter
 case true =>
  simp only[↓vS,vT,simprocAttr];simp[xV,h3,vZ]
 simp only[↓vS,vT,simprocAttr];refine (hg p.log).sc ?_;cases h4:qaZ p.log
 case true =>
  simp only[↓vS,vT,simprocAttr];simp[xV,h4,vZ]
 by_cases h5:(1000:Int)<a.val.length
 ·have h5':1000<a.val.length:=by omega
  simp only[↓vS,vT,simprocAttr,h5];simp[xV,h5',vZ]
 have h5':¬1000<a.val.length:=by omega
 by_cases h6:(200:Int)<a.key.length
 ·have h6':200<a.key.length:=by omega
  simp only[↓vS,vT,simprocAttr,h5,h6];simp[xV,h6',vZ]
 have h6':¬200<a.key.length:=by omega
 by_cases h7:(200:Int)<a.file.length
 ·have h7':200<a.file.length:=by omega
  simp only[↓vS,vT,simprocAttr,h5,h6,h7];simp[xV,h7',vZ]
 have h7':¬200<a.file.length:=by omega
 simp only[↓vS,vT,simprocAttr,h5,h6,h7];simp[xV,h1',h2',h3,h4,h5',h6',h7',vZ]
def jH:IFn:=⟨[.cell 2 2 true],.seq (.r [.q 1 (.box (.t 0)),.q 2 (.alloc [.i .u8 0,.nils])]) (.seq (.reg true [.f 3 0 1,.d 4 3,.q 5 (.buildS 0 [.s [],.i .u32 0] []),.f 6 1 1,.d 7 6,.q 8 (.appD 2 24 (.t 5) (.t 7) [3]),.q 9 (.build [.i .u8 0,.nils] [(0,1,(.t 4)),(1,1,(.t 8))]),.u (.store 2 (.t 2) (.t 9))]) (.ret))⟩
theorem quD(hc:qt P f jH=true)(l:GList)(hl:l.calls.length<=1000):qe P f [.agg (qu l)] (.agg (qu l)):=by
 refine qe.mk hc rfl ?_;simp only[jH,qu,vI,simprocAttr];simp only[↓vS,vT,simprocAttr];refine xb ?_;have hT:List.take (l.calls.length*2) (rC l.calls)=rC l.calls:=List.take_of_length_le (by rw[qjg];exact Nat.le_refl _)
 by_cases h0:l.calls=[]
 ·simp only[↓vS,vT,simprocAttr,h0,qs5,Nat.zero_mul];simp[vZ,vP,Tr.get_set,qI,qf3]
 ·have hn:¬l.calls.length<=0:=by
   intro h;exact h0 (List.eq_nil_of_length_eq_zero (by omega))
  have hr:l.calls.length<=qf:=by simp only[qf];omega
  have hr2:l.calls.length*24<=qf:=by simp only[qf];omega
  simp only[↓vS,vT,simprocAttr,qjg,hT,hn,qvx,hr,hr2];simp[vZ,vP,Tr.get_set,qI qc,qc,qwI]
def qln(a:Nat):IFn:=⟨[.tmp 2],.seq (.r [.m 2 .F]) (.seq (.r [.l 6 a [],.n 7 0,.q 8 (.lookM none true (.nilf) (.t 6) (.t 7)),.n 5 8,.x 9 5 0,.x 10 5 1,.n 3 9,.n 4 10]) (.seq (.r [.n 11 4,.n 2 11]) (.ret)))⟩
def jI(a:Nat):IFn:=⟨[.cell 2 13 true],.seq (.r [.q 1 (.box (.t 0)),.q 2 (.alloc [.nils,.i .u8 0,.nils,.i .u32 0,.i .u8 0,.nils,.nils,.i .u8 0,.i .u64 0,.b false,.b false,.b false,.b false])]) (.seq (.r [.q 3 (.buildS 0 [.i .i64 0] []),.f 4 0 1,.d 5 4,.q 6 (.app 1 8 true (.t 3) (.t 5)),.f 7 0 1,.u (.store 1 (.t 7) (.t 6))]) (.seq (.r [.q 8 (.buildS 0 [.i .u32 0] []),.f 9 6 1,.d 10 9,.q 11 (.app 1 4 true (.t 8) (.t 10)),.f 12 6 1,.u (.store 1 (.t 12) (.t 11))]) (.seq (.r [.f 13 1 1,.v 14 2 13,.l 15 a [.t 14],.f 16 1 1,.u (.store 2 (.t 16) (.t 15))]) (.seq (.r [.f 17 4 1,.v 18 2 17,.l 19 a [.t 18],.f 20 4 1,.u (.store 2 (.t 20) (.t 19))]) (.seq (.r [.v 21 13 1,.u (.store 13 (.t 2) (.t 21))]) (.ret))))))⟩
theorem quE{g:Nat}(hc:qt P f (jI g)=true)(hg:∀l:GList,l.calls.length<=1000->qe P g [.agg (qu l)] (.agg (qu l))):qjs P f:=by
 intro p hp;have ha:=hp.a;have hf:=hp.f;have hcc:=hp.c;have hl:=hp.l;have hT:List.take p.arches.length (rI .i64 p.arches)=rI .i64 p.arches:=List.take_of_length_le (by rw[qd7];exact Nat.le_refl _);have hT2:List.take p.fams.length (rI .u32 p.fams)=rI .u32 p.fams:=List.take_of_length_le (by rw[qd7];exact Nat.le_refl _);refine qe.mk hc rfl ?_;simp only[jI,qj,vI,simprocAttr];simp only[↓vS,vT,simprocAttr]
 by_cases h0:p.arches=[]
 ·by_cases h1:p.fams=[]
  ·simp only[↓vS,vT,simprocAttr,h0,h1,qe1,Nat.zero_mul];refine (hg p.filter hcc).sc ?_;simp only[↓vS,vT,simprocAttr,qu];refine (hg p.log hl).sc ?_;simp only[↓vS,vT,simprocAttr,qu];simp[vZ,vP,Tr.get_set,qI,h0,h1,qe1,qf3]
  ·have hn:¬p.fams.length<=0:=by
    intro h;exact h1 (List.eq_nil_of_length_eq_zero (by omega))
   have hr:p.fams.length<=qf:=by simp only[qf];omega
   have hr2:p.fams.length*4<=qf:=by simp only[qf];omega
   simp only[↓vS,vT,simprocAttr,h0,qe1,Nat.zero_mul,qd7,Nat.mul_one,hT2,hn,qnP,hr,hr2];refine (hg p.filter hcc).sc ?_;simp only[↓vS,vT,simprocAttr,qu];refine (hg p.log hl).sc ?_;simp only[↓vS,vT,simprocAttr,qu];simp[vZ,vP,Tr.get_set,qI qd,qd,h0,qe1,qf3,qs6]
 ·have hm:¬p.arches.length<=0:=by
   intro h;exact h0 (List.eq_nil_of_length_eq_zero (by omega))
  have hs:p.arches.length<=qf:=by simp only[qf];omega
  have hs2:p.arches.length*8<=qf:=by simp only[qf];omega
  by_cases h1:p.fams=[]
  ·simp only[↓vS,vT,simprocAttr,h1,qe1,Nat.zero_mul,qd7,Nat.mul_one,hT,hm,qnP,hs,hs2];refine (hg p.filter hcc).sc ?_;simp only[↓vS,vT,simprocAttr,qu];refine (hg p.log hl).sc ?_;simp only[↓vS,vT,simprocAttr,qu];simp[vZ,vP,Tr.get_set,qI qd,qd,h1,qe1,qf3,qs6]
  ·have hn:¬p.fams.length<=0:=by
    intro h;exact h1 (List.eq_nil_of_length_eq_zero (by omega))
   have hr:p.fams.length<=qf:=by simp only[qf];omega
   have hr2:p.fams.length*4<=qf:=by simp only[qf];omega
   simp only[↓vS,vT,simprocAttr,qd7,Nat.mul_one,hT,hT2,hn,hm,qnP,hr,hr2,hs,hs2];refine (hg p.filter hcc).sc ?_;simp only[↓vS,vT,simprocAttr,qu];refine (hg p.log hl).sc ?_;simp only[↓vS,vT,simprocAttr,qu];simp[vZ,vP,Tr.get_set,qI qd,qd,qs6,qf3]
end Go.Kc
end
section
/- Does a policy rise. Condition: the function's text is this. -/
namespace Go.Kc
variable {P:Program} {f:Nat}
end Go.Kc
end
section
/- The law RestrictOwn: whatever the policy and the assignment, true comes back. Condition: the functions' texts are these. -/
namespace Go.Kc
variable {P:Program} {f:Nat}
end Go.Kc
end
section
/- What the names of faults answer, the program's and the reference's. Condition: the functions' texts are these. -/
namespace Go.Kc
variable {P:Program} {f:Nat}
def jK:IFn:=⟨[.tmp 0],.seq (.r [.m 0 .N]) (.seq (.r [.q 1 (.build [.s [],.i .u64 0] [(0,1,(.c (.s [69,80,69,82,77]))),(1,1,(.c (.i .u64 1)))]),.q 2 (.build [.s [],.i .u64 0] [(0,1,(.c (.s [69,78,79,69,78,84]))),(1,1,(.c (.i .u64 2)))]),.q 3 (.build [.s [],.i .u64 0] [(0,1,(.c (.s [69,73,79]))),(1,1,(.c (.i .u64 5)))]),.q 4 (.build [.s [],.i .u64 0] [(0,1,(.c (.s [69,66,65,68,70]))),(1,1,(.c (.i .u64 9)))]),.q 5 (.build [.s [],.i .u64 0] [(0,1,(.c (.s [69,65,71,65,73,78]))),(1,1,(.c (.i .u64 11)))]),.q 6 (.build [.s [],.i .u64 0] [(0,1,(.c (.s [69,78,79,77,69,77]))),(1,1,(.c (.i .u64 12)))]),.q 7 (.build [.s [],.i .u64 0] [(0,1,(.c (.s [69,65,67,67,69,83]))),(1,1,(.c (.i .u64 13)))]),.q 8 (.build [.s [],.i .u64 0] [(0,1,(.c (.s [69,70,65,85,76,84]))),(1,1,(.c (.i .u64 14)))]),.q 9 (.build [.s [],.i .u64 0] [(0,1,(.c (.s [69,66,85,83,89]))),(1,1,(.c (.i .u64 16)))]),.q 10 (.build [.s [],.i .u64 0] [(0,1,(.c (.s [69,78,79,68,69,86]))),(1,1,(.c (.i .u64 19)))]),.q 11 (.build [.s [],.i .u64 0] [(0,1,(.c (.s [69,73,78,86,65,76]))),(1,1,(.c (.i .u64 22)))]),.q 12 (.build [.s [],.i .u64 0] [(0,1,(.c (.s [69,78,79,83,89,83]))),(1,1,(.c (.i .u64 38)))]),.q 13 (.build [.s [],.i .u64 0] [(0,1,(.c (.s [69,79,80,78,79,84,83,85,80,80]))),(1,1,(.c (.i .u64 95)))]),.q 14 (.build [.s [],.i .u64 0] [(0,1,(.c (.s [69,65,70,78,79,83,85,80,80,79,82,84]))),(1,1,(.c (.i .u64 97)))]),.q 15 (.build [.s [],.i .u64 0] [(0,1,(.c (.s [69,84,73,77,69,68,79,85,84]))),(1,1,(.c (.i .u64 110)))]),.q 16 (.buildS 15 [.s [],.i .u64 0] [(0,2,(.t 1)),(2,2,(.t 2)),(4,2,(.t 3)),(6,2,(.t 4)),(8,2,(.t 5)),(10,2,(.t 6)),(12,2,(.t 7)),(14,2,(.t 8)),(16,2,(.t 9)),(18,2,(.t 10)),(20,2,(.t 11)),(22,2,(.t 12)),(24,2,(.t 13)),(26,2,(.t 14)),(28,2,(.t 15))]),.n 0 16]) (.ret))⟩
set_option maxRecDepth 8000 in
theorem quK(hc:qt P f jK=true):qe P f [] (.fz 15 (zh.flatMap (qQ .u64))):=by
 refine qe.mk hc rfl ?_;simp only[jK,vI,simprocAttr];simp (decide:=true) only [↓vS,vT,simprocAttr];refine Frz.cut 2 rfl (Nat.le_refl _) ?_;simp (decide:=true) [vP,Tr.get_set,zh,qQ,qI,vZ]
def qmE(a:Nat):IFn:=⟨[.tmp 4],.seq (.r [.q 2 (.box (.t 0)),.q 3 (.box (.t 1)),.m 4 (.c (.nilf))]) (.seq (.r [.q 5 (.mkF a [] [.t 2,.t 3]),.n 4 5]) (.ret))⟩
def qmI(a b:Nat):IFn:=⟨[.tmp 2,.tmp 3],.seq (.r [.m 2 (.c (.i .u32 0)),.m 3 (.k 0)]) (.seq (.r [.l 10 a [],.q 4 (.alloc [.s [],.i .u32 0,.s [],.i .u32 0,.s [],.i .u32 0,.s [],.i .u32 0,.s [],.i .u32 0,.s [],.i .u32 0,.s [],.i .u32 0,.s [],.i .u32 0,.s [],.i .u32 0,.s [],.i .u32 0,.s [],.i .u32 0,.s [],.i .u32 0,.s [],.i .u32 0,.s [],.i .u32 0,.s [],.i .u32 0]),.u (.store 30 (.t 4) (.t 10))]) (.seq (.seq (.r [.q 12 (.slcA 15 2 (.t 4) none none none),.n 13 0,.l 14 b [.t 12,.t 13,.k 160],.n 11 14,.x 15 11 0,.x 16 11 1,.n 5 15,.n 6 16]) (.seq (.r [.n 17 6,.w 18 .eql 17 0]) (.cond (.t 18) (.seq (.r [.n 19 5,.n 2 19,.m 3 (.k 0)]) (.ret)) (.skip)))) (.seq (.r [.m 7 (.k 0)]) (.seq (.seq (.r [.n 20 0,.q 21 (.s2b (.t 20)),.e 22 21,.m 23 (.k 0)]) (.blk 0 (.loop (.seq (.r [.s 24 23 22]) (.seq (.cond (.t 24) (.skip) (.exit 0)) (.seq (.blk 1 (.seq (.r [.i 25 1 21 23,.d 26 25,.n 9 26]) (.seq (.seq (.r [.n 27 9,.q 28 (.bin .lss (.t 27) (.c (.i .u8 48))),.n 29 28,.z 30 9 29,.g 31 (.bin .gtr (.t 30) (.c (.i .u8 57))) 29 false,.o 32 29 31]) (.cond (.t 32) (.seq (.r [.m 2 (.c (.i .u32 0)),.m 3 (.k 160)]) (.ret)) (.skip))) (.r [.n 33 7,.q 34 (.bin .mul (.k 10) (.t 33)),.n 35 9,.q 36 (.bin .sub (.t 35) (.c (.i .u8 48))),.q 37 (.cvInt .i64 (.t 36)),.b 38 .add 34 37,.q 39 (.min (.t 38) (.k 1048576)),.n 7 39])))) (.r [.a 40 23 1,.n 23 40]))))))) (.seq (.seq (.r [.n 41 0,.q 42 (.len true (.t 41)),.w 43 .lss 42 1,.n 44 43,.z 45 0 44,.g 46 (.len true (.t 45)) 44 false,.g 47 (.bin .gtr (.t 46) (.k 4)) 44 false,.o 48 44 47,.n 49 48,.z 50 7 49,.g 51 (.bin .gtr (.t 50) (.k 4095)) 49 false,.o 52 49 51]) (.cond (.t 52) (.seq (.r [.m 2 (.c (.i .u32 0)),.m 3 (.k 160)]) (.ret)) (.skip))) (.seq (.r [.n 53 7,.q 54 (.cvInt .u32 (.t 53)),.n 2 54,.m 3 (.k 0)]) (.ret)))))))⟩
end Go.Kc
end
section
/- The law FilterKeys: the program's way. Condition: the functions' texts are these. -/
namespace Go.Kc
variable {P:Program} {f:Nat}
def qlk(a:Nat):IFn:=⟨[.tmp 2,.tmp 3],.seq (.r [.m 2 (.c (.i .u32 0)),.m 3 (.k 0)]) (.seq (.seq (.r [.n 5 0,.q 6 (.bin .eql (.t 5) (.c (.s []))),.n 7 6,.z 8 0 7,.g 9 (.bin .eql (.t 8) (.c (.s [107,105,108,108]))) 7 false,.o 10 7 9]) (.cond (.t 10) (.seq (.r [.m 2 (.c (.i .u32 2147483648)),.m 3 (.k 0)]) (.ret)) (.skip))) (.seq (.r [.n 12 0,.l 13 a [.t 12],.n 11 13,.x 14 11 0,.x 15 11 1,.n 4 14,.n 3 15]) (.seq (.seq (.r [.n 16 3,.w 17 .neq 16 0]) (.cond (.t 17) (.seq (.r [.n 18 3,.m 2 (.c (.i .u32 0)),.n 3 18]) (.ret)) (.skip))) (.seq (.r [.n 19 4,.q 20 (.bin .or (.c (.i .u32 327680)) (.t 19)),.n 2 20,.m 3 (.k 0)]) (.ret)))))⟩
def xh:List UInt8:=[83,121,115,116,101,109,67,97,108,108,70,105,108,116,101,114]
def qcL:List UInt8:=[83,121,115,116,101,109,67,97,108,108,76,111,103]
def qir:List UInt8:=[83,121,115,116,101,109,67,97,108,108,69,114,114,111,114,78,117,109,98,101,114]
def qmD(a b c d:Nat):IFn:=⟨[.tmp 0],.seq (.r [.m 0 (.c (.nilm))]) (.seq (.r [.q 1 (.mkM),.l 2 a [(.c (.fn b [] [])),.T],.u (.updM none (.t 1) (.c (.s [83,121,115,116,101,109,67,97,108,108,70,105,108,116,101,114])) (.t 2)),.l 3 a [(.c (.fn c [] [])),.F],.u (.updM none (.t 1) (.c (.s [83,121,115,116,101,109,67,97,108,108,76,111,103])) (.t 3)),.u (.updM none (.t 1) (.c (.s [83,121,115,116,101,109,67,97,108,108,69,114,114,111,114,78,117,109,98,101,114])) (.c (.fn d [] []))),.n 4 1,.n 0 4]) (.ret))⟩
def qn9(a:Nat):IFn:=⟨[.tmp 2],.seq (.r [.m 2 .F]) (.seq (.r [.l 6 a [],.n 7 0,.q 8 (.lookM none true (.nilf) (.t 6) (.t 7)),.n 5 8,.x 9 5 0,.x 10 5 1,.n 3 9,.n 4 10]) (.seq (.r [.n 11 4,.n 2 11]) (.ret)))⟩
end Go.Kc
end
section
/- The small functions of fold: what they answer. Condition: the functions' texts are these. -/
namespace Go.Kc
variable {P:Program} {f:Nat}
def qcZ:IFn:=⟨[.tmp 2],.seq (.r [.m 2 .F]) (.seq (.r [.n 3 0,.q 4 (.bin .eql (.t 3) (.c (.i .u32 0))),.n 5 4,.z 6 0 5,.g 7 (.bin .eql (.t 6) (.c (.i .u32 2147483648))) 5 false,.o 8 5 7,.n 9 8,.z 10 0 9,.g 11 (.bin .geq (.t 10) (.c (.i .u32 327680))) 9 false,.z 12 11 9,.y 13 0 12,.g 14 (.bin .leq (.t 13) (.c (.i .u32 331775))) 12 true,.g 15 (.pick (.t 12) (.t 14) .F) 9 false,.o 16 9 15,.n 2 16]) (.ret))⟩
def qdw(n:Int):Bool:=decide (n=0)||decide (n=2147483648)||(decide (327680<=n)&&decide (n<=331775))
theorem qqr(hc:qt P f qcZ=true)(n:Int):qe P f [.i .u32 n] (.b (qdw n)):=by
 refine qe.mk hc rfl ?_;simp only[qcZ,vI,simprocAttr]
 by_cases h1:n=0
 ·simp only[↓vS,vT,simprocAttr,h1];simp[vZ,qdw,h1]
 by_cases h2:n=2147483648
 ·simp only[↓vS,vT,simprocAttr,h1,h2];simp[vZ,qdw,h2]
 by_cases h3:327680<=n
 ·by_cases h4:n<=331775
  ·simp only[↓vS,vT,simprocAttr,h1,h2,h3,h4];simp[vZ,qdw,h3,h4]
  ·simp only[↓vS,vT,simprocAttr,h1,h2,h3,h4];simp[vZ,qdw,h1,h2,h4]
 ·simp only[↓vS,vT,simprocAttr,h1,h2,h3];simp[vZ,qdw,h1,h2,h3]
def qmH(a:Nat):IFn:=⟨[.cell 2 2 true],.seq (.r [.q 1 (.box (.t 0)),.q 2 (.alloc [.i .u8 0,.nils])]) (.seq (.reg true [.f 3 0 1,.d 4 3,.f 5 1 1,.d 6 5,.l 7 a [.t 6],.q 8 (.build [.i .u8 0,.nils] [(0,1,(.t 4)),(1,1,(.t 7))]),.u (.store 2 (.t 2) (.t 8))]) (.ret))⟩
def qi8(a:Nat):IFn:=⟨[.tmp 4],.seq (.r [.m 4 (.k 0)]) (.seq (.r [.n 5 0,.n 6 1,.l 7 a [.t 5,.t 6],.n 4 7]) (.ret))⟩
def qed(a:Nat):IFn:=⟨[.tmp 4],.seq (.r [.m 4 (.k 0)]) (.seq (.r [.n 5 0,.n 6 1,.l 7 a [.t 5,.t 6],.n 4 7]) (.ret))⟩
def qob(a:Nat):IFn:=⟨[.tmp 4],.seq (.r [.q 2 (.box (.t 0)),.m 4 (.k 0)]) (.seq (.r [.f 5 0 2,.d 6 5,.n 7 1,.l 8 a [.t 6,.t 7],.n 4 8]) (.ret))⟩
def qmG:IFn:=⟨[.tmp 3],.seq (.r [.q 2 (.box (.t 0)),.m 3 .F]) (.seq (.r [.f 4 0 2,.d 5 4,.d 6 1,.b 7 .eql 5 6,.n 3 7]) (.ret))⟩
end Go.Kc
end
section
/- A binary search among calls by a function; a list of calls without some. Condition: the functions' texts are these. -/
namespace Go.Kc
variable {P:Program} {f:Nat}
def qa5:IFn:=⟨[.tmp 6,.tmp 7],.seq (.r [.m 6 (.k 0),.m 7 .F]) (.seq (.r [.n 12 0,.e 13 12,.n 8 13]) (.seq (.r [.n 14 8,.m 9 (.k 0),.n 10 14]) (.seq (.blk 0 (.loop (.seq (.seq (.r [.n 15 9,.n 16 10,.s 17 15 16]) (.cond (.t 17) (.skip) (.exit 0))) (.blk 1 (.seq (.r [.n 18 9,.n 19 10,.b 20 .add 18 19,.q 21 (.cvInt .u64 (.t 20)),.q 22 (.bin .shr (.t 21) (.c (.i .u64 1))),.q 23 (.cvInt .i64 (.t 22)),.n 11 23]) (.seq (.r [.n 24 2,.n 25 0,.n 26 11,.i 27 2 25 26,.v 28 2 27,.n 29 1,⟨(some 30),.callV (.t 24) [.t 28,.t 29],none⟩,.w 31 .lss 30 0]) (.cond (.t 31) (.r [.n 32 11,.a 33 32 1,.n 9 33]) (.r [.n 34 11,.n 10 34])))))))) (.seq (.r [.n 35 9,.n 36 9,.n 37 8,.s 38 36 37,.n 39 38,.y 40 2 39,.y 41 0 39,.y 42 9 39,.g 43 (.iAddrS 2 (.t 41) (.t 42)) 39 true,.g 44 (.loadN 2 (.t 43)) 39 true,.y 45 1 39,⟨(some 46),.callV (.t 40) [.t 44,.t 45],(some (39,true))⟩,.g 47 (.bin .eql (.t 46) (.k 0)) 39 true,.p 48 39 47,.n 6 35,.n 7 48]) (.ret)))))⟩
end Go.Kc
end
section
/- What slices.DeleteFunc makes of a row of calls of one's own. Condition: the functions' texts are these. -/
namespace Go.Kc
variable {P:Program} {f:Nat}
def qc3(a:Nat):IFn:=⟨[.tmp 4],.seq (.r [.m 4 .N]) (.seq (.r [.n 8 0,.n 9 1,.l 10 a [.t 8,.t 9],.n 5 10]) (.seq (.seq (.r [.n 11 5,.q 12 (.bin .eql (.t 11) (.c (.i .i64 (-1))))]) (.cond (.t 12) (.seq (.r [.n 13 0,.n 4 13]) (.ret)) (.skip))) (.seq (.seq (.r [.n 14 5,.a 15 14 1,.n 6 15]) (.blk 0 (.loop (.seq (.seq (.r [.n 16 6,.n 17 0,.e 18 17,.s 19 16 18]) (.cond (.t 19) (.skip) (.exit 0))) (.seq (.blk 1 (.seq (.r [.n 22 0,.n 23 6,.i 24 2 22 23,.v 25 2 24,.q 7 (.alloc [.s [],.i .u32 0]),.u (.store 2 (.t 7) (.t 25))]) (.seq (.r [.n 26 1,.v 27 2 7,⟨(some 28),.callV (.t 26) [.t 27],none⟩,.q 29 (.un .not (.t 28))]) (.cond (.t 29) (.seq (.r [.n 30 0,.n 31 5,.v 32 2 7,.i 33 2 30 31,.u (.store 2 (.t 33) (.t 32))]) (.r [.n 34 5,.a 35 34 1,.n 5 35])) (.skip))))) (.r [.n 20 6,.a 21 20 1,.n 6 21])))))) (.seq (.r [.n 36 0,.n 37 5,.q 38 (.slcS 2 (.t 36) (some (.t 37)) none none),.u (.clear [.s [],.i .u32 0] (.t 38))]) (.seq (.r [.n 39 0,.n 40 5,.q 41 (.slcS 2 (.t 39) none (some (.t 40)) none),.n 4 41]) (.ret))))))⟩
end Go.Kc
end
section
/- Is a call known. Condition: the functions' texts are these. -/
namespace Go.Kc
variable {P:Program} {f:Nat}
def qY:List (List UInt8×List Int):=[([98,105,110,100],[49,361,49,282,200,200]),([98,112,102],[321,357,321,386,280,280]),([98,114,107],[12,45,12,45,214,214]),([99,108,111,99,107,95,115,101,116,116,105,109,101],[227,264,227,262,112,112]),([99,108,111,110,101],[56,120,56,120,220,220]),([99,108,111,110,101,51],[435,435,(-1),435,435,435]),([99,108,111,115,101],[3,6,3,6,57,57]),([99,111,110,110,101,99,116],[42,362,42,283,203,203]),([100,101,108,101,116,101,95,109,111,100,117,108,101],[176,129,176,129,106,106]),([101,120,101,99,118,101],[59,11,520,11,221,221]),([101,120,105,116],[60,1,60,1,93,93]),([102,105,110,105,116,95,109,111,100,117,108,101],[313,350,313,379,273,273]),([102,111,114,107],[57,2,57,2,(-1),(-1)]),([103,101,116,117,105,100],[102,24,102,24,174,174]),([105,110,105,116,95,109,111,100,117,108,101],[175,128,(-1),128,105,105]),([105,111,99,116,108],[16,54,514,54,29,29]),([107,105,108,108],[62,37,62,37,129,129]),([108,105,115,116,101,110],[50,363,50,284,201,201]),([109,109,97,112],[9,90,9,(-1),222,222]),([109,111,117,110,116],[165,21,165,21,40,40]),([109,112,114,111,116,101,99,116],[10,125,10,125,226,226]),([109,117,110,109,97,112],[11,91,11,91,215,215]),([111,112,101,110],[2,5,2,5,(-1),(-1)]),([111,112,101,110,97,116],[257,295,257,322,56,56]),([112,101,114,115,111,110,97,108,105,116,121],[135,136,135,136,92,92]),([112,107,101,121,95,109,112,114,111,116,101,99,116],[329,380,329,394,288,(-1)]),([112,116,114,97,99,101],[101,26,521,26,117,117]),([114,101,97,100],[0,3,0,3,63,63]),([114,101,98,111,111,116],[169,88,169,88,142,142]),([115,99,104,101,100,95,115,101,116,97,116,116,114],[314,351,314,380,274,274]),([115,99,104,101,100,95,115,101,116,115,99,104,101,100,117,108,101,114],[144,156,144,156,119,119]),([115,101,99,99,111,109,112],[317,354,317,383,277,277]),([115,101,116,110,115],[308,346,308,375,268,268]),([115,101,116,116,105,109,101,111,102,100,97,121],[164,79,164,79,170,170]),([115,101,116,117,105,100],[105,23,105,23,146,146]),([115,104,109,97,116],[30,397,(-1),305,196,196]),([115,111,99,107,101,116],[41,359,41,281,198,198]),([117,109,111,117,110,116,50],[166,52,166,52,39,39]),([117,110,115,104,97,114,101],[272,310,272,337,97,97]),([119,114,105,116,101],[1,4,1,4,64,64])]
def qbu(x:List UInt8×List Int):List AV:=[.s x.1,.i .i64 (x.2.getD 0 0),.i .i64 (x.2.getD 1 0),.i .i64 (x.2.getD 2 0),.i .i64 (x.2.getD 3 0),.i .i64 (x.2.getD 4 0),.i .i64 (x.2.getD 5 0)]
theorem qiC(x:List UInt8×List Int):(qbu x).length=7:=rfl
def qcY:IFn:=⟨[.cell 0 280 true],.seq (.r [.q 0 (.alloc [.s [],.i .i64 0,.i .i64 0,.i .i64 0,.i .i64 0,.i .i64 0,.i .i64 0,.s [],.i .i64 0,.i .i64 0,.i .i64 0,.i .i64 0,.i .i64 0,.i .i64 0,.s [],.i .i64 0,.i .i64 0,.i .i64 0,.i .i64 0,.i .i64 0,.i .i64 0,.s [],.i .i64 0,.i .i64 0,.i .i64 0,.i .i64 0,.i .i64 0,.i .i64 0,.s [],.i .i64 0,.i .i64 0,.i .i64 0,.i .i64 0,.i .i64 0,.i .i64 0,.s [],.i .i64 0,.i .i64 0,.i .i64 0,.i .i64 0,.i .i64 0,.i .i64 0,.s [],.i .i64 0,.i .i64 0,.i .i64 0,.i .i64 0,.i .i64 0,.i .i64 0,.s [],.i .i64 0,.i .i64 0,.i .i64 0,.i .i64 0,.i .i64 0,.i .i64 0,.s [],.i .i64 0,.i .i64 0,.i .i64 0,.i .i64 0,.i .i64 0,.i .i64 0,.s [],.i .i64 0,.i .i64 0,.i .i64 0,.i .i64 0,.i .i64 0,.i .i64 0,.s [],.i .i64 0,.i .i64 0,.i .i64 0,.i .i64 0,.i .i64 0,.i .i64 0,.s [],.i .i64 0,.i .i64 0,.i .i64 0,.i .i64 0,.i .i64 0,.i .i64 0,.s [],.i .i64 0,.i .i64 0,.i .i64 0,.i .i64 0,.i .i64 0,.i .i64 0,.s [],.i .i64 0,.i .i64 0,.i .i64 0,.i .i64 0,.i .i64 0,.i .i64 0,.s [],.i .i64 0,.i .i64 0,.i .i64 0,.i .i64 0,.i .i64 0,.i .i64 0,.s [],.i .i64 0,.i .i64 0,.i .i64 0,.i .i64 0,.i .i64 0,.i .i64 0,.s [],.i .i64 0,.i .i64 0,.i .i64 0,.i .i64 0,.i .i64 0,.i .i64 0,.s [],.i .i64 0,.i .i64 0,.i .i64 0,.i .i64 0,.i .i64 0,.i .i64 0,.s [],.i .i64 0,.i .i64 0,.i .i64 0,.i .i64 0,.i .i64 0,.i .i64 0,.s [],.i .i64 0,.i .i64 0,.i .i64 0,.i .i64 0,.i .i64 0,.i .i64 0,.s [],.i .i64 0,.i .i64 0,.i .i64 0,.i .i64 0,.i .i64 0,.i .i64 0,.s [],.i .i64 0,.i .i64 0,.i .i64 0,.i .i64 0,.i .i64 0,.i .i64 0,.s [],.i .i64 0,.i .i64 0,.i .i64 0,.i .i64 0,.i .i64 0,.i .i64 0,.s [],.i .i64 0,.i .i64 0,.i .i64 0,.i .i64 0,.i .i64 0,.i .i64 0,.s [],.i .i64 0,.i .i64 0,.i .i64 0,.i .i64 0,.i .i64 0,.i .i64 0,.s [],.i .i64 0,.i .i64 0,.i .i64 0,.i .i64 0,.i .i64 0,.i .i64 0,.s [],.i .i64 0,.i .i64 0,.i .i64 0,.i .i64 0,.i .i64 0,.i .i64 0,.s [],.i .i64 0,.i .i64 0,.i .i64 0,.i .i64 0,.i .i64 0,.i .i64 0,.s [],.i .i64 0,.i .i64 0,.i .i64 0,.i .i64 0,.i .i64 0,.i .i64 0,.s [],.i .i64 0,.i .i64 0,.i .i64 0,.i .i64 0,.i .i64 0,.i .i64 0,.s [],.i .i64 0,.i .i64 0,.i .i64 0,.i .i64 0,.i .i64 0,.i .i64 0,.s [],.i .i64 0,.i .i64 0,.i .i64 0,.i .i64 0,.i .i64 0,.i .i64 0,.s [],.i .i64 0,.i .i64 0,.i .i64 0,.i .i64 0,.i .i64 0,.i .i64 0,.s [],.i .i64 0,.i .i64 0,.i .i64 0,.i .i64 0,.i .i64 0,.i .i64 0,.s [],.i .i64 0,.i .i64 0,.i .i64 0,.i .i64 0,.i .i64 0,.i .i64 0,.s [],.i .i64 0,.i .i64 0,.i .i64 0,.i .i64 0,.i .i64 0,.i .i64 0,.s [],.i .i64 0,.i .i64 0,.i .i64 0,.i .i64 0,.i .i64 0,.i .i64 0,.s [],.i .i64 0,.i .i64 0,.i .i64 0,.i .i64 0,.i .i64 0,.i .i64 0,.s [],.i .i64 0,.i .i64 0,.i .i64 0,.i .i64 0,.i .i64 0,.i .i64 0,.s [],.i .i64 0,.i .i64 0,.i .i64 0,.i .i64 0,.i .i64 0,.i .i64 0])]) (.seq (.r [.q 1 (.build [.i .i64 0,.i .i64 0,.i .i64 0,.i .i64 0,.i .i64 0,.i .i64 0] [(0,1,(.k 49)),(1,1,(.k 361)),(2,1,(.k 49)),(3,1,(.k 282)),(4,1,(.k 200)),(5,1,(.k 200))]),.q 2 (.build [.s [],.i .i64 0,.i .i64 0,.i .i64 0,.i .i64 0,.i .i64 0,.i .i64 0] [(0,1,(.c (.s [98,105,110,100]))),(1,6,(.t 1))]),.q 3 (.build [.i .i64 0,.i .i64 0,.i .i64 0,.i .i64 0,.i .i64 0,.i .i64 0] [(0,1,(.k 321)),(1,1,(.k 357)),(2,1,(.k 321)),(3,1,(.k 386)),(4,1,(.k 280)),(5,1,(.k 280))]),.q 4 (.build [.s [],.i .i64 0,.i .i64 0,.i .i64 0,.i .i64 0,.i .i64 0,.i .i64 0] [(0,1,(.c (.s [98,112,102]))),(1,6,(.t 3))]),.q 5 (.build [.i .i64 0,.i .i64 0,.i .i64 0,.i .i64 0,.i .i64 0,.i .i64 0] [(0,1,(.k 12)),(1,1,(.k 45)),(2,1,(.k 12)),(3,1,(.k 45)),(4,1,(.k 214)),(5,1,(.k 214))]),.q 6 (.build [.s [],.i .i64 0,.i .i64 0,.i .i64 0,.i .i64 0,.i .i64 0,.i .i64 0] [(0,1,(.c (.s [98,114,107]))),(1,6,(.t 5))]),.q 7 (.build [.i .i64 0,.i .i64 0,.i .i64 0,.i .i64 0,.i .i64 0,.i .i64 0] [(0,1,(.k 227)),(1,1,(.k 264)),(2,1,(.k 227)),(3,1,(.k 262)),(4,1,(.k 112)),(5,1,(.k 112))]),.q 8 (.build [.s [],.i .i64 0,.i .i64 0,.i .i64 0,.i .i64 0,.i .i64 0,.i .i64 0] [(0,1,(.c (.s [99,108,111,99,107,95,115,101,116,116,105,109,101]))),(1,6,(.t 7))]),.q 9 (.build [.i .i64 0,.i .i64 0,.i .i64 0,.i .i64 0,.i .i64 0,.i .i64 0] [(0,1,(.k 56)),(1,1,(.k 120)),(2,1,(.k 56)),(3,1,(.k 120)),(4,1,(.k 220)),(5,1,(.k 220))]),.q 10 (.build [.s [],.i .i64 0,.i .i64 0,.i .i64 0,.i .i64 0,.i .i64 0,.i .i64 0] [(0,1,(.c (.s [99,108,111,110,101]))),(1,6,(.t 9))]),.q 11 (.build [.i .i64 0,.i .i64 0,.i .i64 0,.i .i64 0,.i .i64 0,.i .i64 0] [(0,1,(.k 435)),(1,1,(.k 435)),(2,1,(.c (.i .i64 (-1)))),(3,1,(.k 435)),(4,1,(.k 435)),(5,1,(.k 435))]),.q 12 (.build [.s [],.i .i64 0,.i .i64 0,.i .i64 0,.i .i64 0,.i .i64 0,.i .i64 0] [(0,1,(.c (.s [99,108,111,110,101,51]))),(1,6,(.t 11))]),.q 13 (.build [.i .i64 0,.i .i64 0,.i .i64 0,.i .i64 0,.i .i64 0,.i .i64 0] [(0,1,(.k 3)),(1,1,(.k 6)),(2,1,(.k 3)),(3,1,(.k 6)),(4,1,(.k 57)),(5,1,(.k 57))]),.q 14 (.build [.s [],.i .i64 0,.i .i64 0,.i .i64 0,.i .i64 0,.i .i64 0,.i .i64 0] [(0,1,(.c (.s [99,108,111,115,101]))),(1,6,(.t 13))]),.q 15 (.build [.i .i64 0,.i .i64 0,.i .i64 0,.i .i64 0,.i .i64 0,.i .i64 0] [(0,1,(.k 42)),(1,1,(.k 362)),(2,1,(.k 42)),(3,1,(.k 283)),(4,1,(.k 203)),(5,1,(.k 203))]),.q 16 (.build [.s [],.i .i64 0,.i .i64 0,.i .i64 0,.i .i64 0,.i .i64 0,.i .i64 0] [(0,1,(.c (.s [99,111,110,110,101,99,116]))),(1,6,(.t 15))]),.q 17 (.build [.i .i64 0,.i .i64 0,.i .i64 0,.i .i64 0,.i .i64 0,.i .i64 0] [(0,1,(.k 176)),(1,1,(.k 129)),(2,1,(.k 176)),(3,1,(.k 129)),(4,1,(.k 106)),(5,1,(.k 106))]),.q 18 (.build [.s [],.i .i64 0,.i .i64 0,.i .i64 0,.i .i64 0,.i .i64 0,.i .i64 0] [(0,1,(.c (.s [100,101,108,101,116,101,95,109,111,100,117,108,101]))),(1,6,(.t 17))]),.q 19 (.build [.i .i64 0,.i .i64 0,.i .i64 0,.i .i64 0,.i .i64 0,.i .i64 0] [(0,1,(.k 59)),(1,1,(.k 11)),(2,1,(.k 520)),(3,1,(.k 11)),(4,1,(.k 221)),(5,1,(.k 221))]),.q 20 (.build [.s [],.i .i64 0,.i .i64 0,.i .i64 0,.i .i64 0,.i .i64 0,.i .i64 0] [(0,1,(.c (.s [101,120,101,99,118,101]))),(1,6,(.t 19))]),.q 21 (.build [.i .i64 0,.i .i64 0,.i .i64 0,.i .i64 0,.i .i64 0,.i .i64 0] [(0,1,(.k 60)),(1,1,(.k 1)),(2,1,(.k 60)),(3,1,(.k 1)),(4,1,(.k 93)),(5,1,(.k 93))]),.q 22 (.build [.s [],.i .i64 0,.i .i64 0,.i .i64 0,.i .i64 0,.i .i64 0,.i .i64 0] [(0,1,(.c (.s [101,120,105,116]))),(1,6,(.t 21))]),.q 23 (.build [.i .i64 0,.i .i64 0,.i .i64 0,.i .i64 0,.i .i64 0,.i .i64 0] [(0,1,(.k 313)),(1,1,(.k 350)),(2,1,(.k 313)),(3,1,(.k 379)),(4,1,(.k 273)),(5,1,(.k 273))]),.q 24 (.build [.s [],.i .i64 0,.i .i64 0,.i .i64 0,.i .i64 0,.i .i64 0,.i .i64 0] [(0,1,(.c (.s [102,105,110,105,116,95,109,111,100,117,108,101]))),(1,6,(.t 23))]),.q 25 (.build [.i .i64 0,.i .i64 0,.i .i64 0,.i .i64 0,.i .i64 0,.i .i64 0] [(0,1,(.k 57)),(1,1,(.k 2)),(2,1,(.k 57)),(3,1,(.k 2)),(4,1,(.c (.i .i64 (-1)))),(5,1,(.c (.i .i64 (-1))))]),.q 26 (.build [.s [],.i .i64 0,.i .i64 0,.i .i64 0,.i .i64 0,.i .i64 0,.i .i64 0] [(0,1,(.c (.s [102,111,114,107]))),(1,6,(.t 25))]),.q 27 (.build [.i .i64 0,.i .i64 0,.i .i64 0,.i .i64 0,.i .i64 0,.i .i64 0] [(0,1,(.k 102)),(1,1,(.k 24)),(2,1,(.k 102)),(3,1,(.k 24)),(4,1,(.k 174)),(5,1,(.k 174))]),.q 28 (.build [.s [],.i .i64 0,.i .i64 0,.i .i64 0,.i .i64 0,.i .i64 0,.i .i64 0] [(0,1,(.c (.s [103,101,116,117,105,100]))),(1,6,(.t 27))]),.q 29 (.build [.i .i64 0,.i .i64 0,.i .i64 0,.i .i64 0,.i .i64 0,.i .i64 0] [(0,1,(.k 175)),(1,1,(.k 128)),(2,1,(.c (.i .i64 (-1)))),(3,1,(.k 128)),(4,1,(.k 105)),(5,1,(.k 105))]),.q 30 (.build [.s [],.i .i64 0,.i .i64 0,.i .i64 0,.i .i64 0,.i .i64 0,.i .i64 0] [(0,1,(.c (.s [105,110,105,116,95,109,111,100,117,108,101]))),(1,6,(.t 29))]),.q 31 (.build [.i .i64 0,.i .i64 0,.i .i64 0,.i .i64 0,.i .i64 0,.i .i64 0] [(0,1,(.k 16)),(1,1,(.k 54)),(2,1,(.k 514)),(3,1,(.k 54)),(4,1,(.k 29)),(5,1,(.k 29))]),.q 32 (.build [.s [],.i .i64 0,.i .i64 0,.i .i64 0,.i .i64 0,.i .i64 0,.i .i64 0] [(0,1,(.c (.s [105,111,99,116,108]))),(1,6,(.t 31))]),.q 33 (.build [.i .i64 0,.i .i64 0,.i .i64 0,.i .i64 0,.i .i64 0,.i .i64 0] [(0,1,(.k 62)),(1,1,(.k 37)),(2,1,(.k 62)),(3,1,(.k 37)),(4,1,(.k 129)),(5,1,(.k 129))]),.q 34 (.build [.s [],.i .i64 0,.i .i64 0,.i .i64 0,.i .i64 0,.i .i64 0,.i .i64 0] [(0,1,(.c (.s [107,105,108,108]))),(1,6,(.t 33))]),.q 35 (.build [.i .i64 0,.i .i64 0,.i .i64 0,.i .i64 0,.i .i64 0,.i .i64 0] [(0,1,(.k 50)),(1,1,(.k 363)),(2,1,(.k 50)),(3,1,(.k 284)),(4,1,(.k 201)),(5,1,(.k 201))]),.q 36 (.build [.s [],.i .i64 0,.i .i64 0,.i .i64 0,.i .i64 0,.i .i64 0,.i .i64 0] [(0,1,(.c (.s [108,105,115,116,101,110]))),(1,6,(.t 35))]),.q 37 (.build [.i .i64 0,.i .i64 0,.i .i64 0,.i .i64 0,.i .i64 0,.i .i64 0] [(0,1,(.k 9)),(1,1,(.k 90)),(2,1,(.k 9)),(3,1,(.c (.i .i64 (-1)))),(4,1,(.k 222)),(5,1,(.k 222))]),.q 38 (.build [.s [],.i .i64 0,.i .i64 0,.i .i64 0,.i .i64 0,.i .i64 0,.i .i64 0] [(0,1,(.c (.s [109,109,97,112]))),(1,6,(.t 37))]),.q 39 (.build [.i .i64 0,.i .i64 0,.i .i64 0,.i .i64 0,.i .i64 0,.i .i64 0] [(0,1,(.k 165)),(1,1,(.k 21)),(2,1,(.k 165)),(3,1,(.k 21)),(4,1,(.k 40)),(5,1,(.k 40))]),.q 40 (.build [.s [],.i .i64 0,.i .i64 0,.i .i64 0,.i .i64 0,.i .i64 0,.i .i64 0] [(0,1,(.c (.s [109,111,117,110,116]))),(1,6,(.t 39))]),.q 41 (.build [.i .i64 0,.i .i64 0,.i .i64 0,.i .i64 0,.i .i64 0,.i .i64 0] [(0,1,(.k 10)),(1,1,(.k 125)),(2,1,(.k 10)),(3,1,(.k 125)),(4,1,(.k 226)),(5,1,(.k 226))]),.q 42 (.build [.s [],.i .i64 0,.i .i64 0,.i .i64 0,.i .i64 0,.i .i64 0,.i .i64 0] [(0,1,(.c (.s [109,112,114,111,116,101,99,116]))),(1,6,(.t 41))]),.q 43 (.build [.i .i64 0,.i .i64 0,.i .i64 0,.i .i64 0,.i .i64 0,.i .i64 0] [(0,1,(.k 11)),(1,1,(.k 91)),(2,1,(.k 11)),(3,1,(.k 91)),(4,1,(.k 215)),(5,1,(.k 215))]),.q 44 (.build [.s [],.i .i64 0,.i .i64 0,.i .i64 0,.i .i64 0,.i .i64 0,.i .i64 0] [(0,1,(.c (.s [109,117,110,109,97,112]))),(1,6,(.t 43))]),.q 45 (.build [.i .i64 0,.i .i64 0,.i .i64 0,.i .i64 0,.i .i64 0,.i .i64 0] [(0,1,(.k 2)),(1,1,(.k 5)),(2,1,(.k 2)),(3,1,(.k 5)),(4,1,(.c (.i .i64 (-1)))),(5,1,(.c (.i .i64 (-1))))]),.q 46 (.build [.s [],.i .i64 0,.i .i64 0,.i .i64 0,.i .i64 0,.i .i64 0,.i .i64 0] [(0,1,(.c (.s [111,112,101,110]))),(1,6,(.t 45))]),.q 47 (.build [.i .i64 0,.i .i64 0,.i .i64 0,.i .i64 0,.i .i64 0,.i .i64 0] [(0,1,(.k 257)),(1,1,(.k 295)),(2,1,(.k 257)),(3,1,(.k 322)),(4,1,(.k 56)),(5,1,(.k 56))]),.q 48 (.build [.s [],.i .i64 0,.i .i64 0,.i .i64 0,.i .i64 0,.i .i64 0,.i .i64 0] [(0,1,(.c (.s [111,112,101,110,97,116]))),(1,6,(.t 47))]),.q 49 (.build [.i .i64 0,.i .i64 0,.i .i64 0,.i .i64 0,.i .i64 0,.i .i64 0] [(0,1,(.k 135)),(1,1,(.k 136)),(2,1,(.k 135)),(3,1,(.k 136)),(4,1,(.k 92)),(5,1,(.k 92))]),.q 50 (.build [.s [],.i .i64 0,.i .i64 0,.i .i64 0,.i .i64 0,.i .i64 0,.i .i64 0] [(0,1,(.c (.s [112,101,114,115,111,110,97,108,105,116,121]))),(1,6,(.t 49))]),.q 51 (.build [.i .i64 0,.i .i64 0,.i .i64 0,.i .i64 0,.i .i64 0,.i .i64 0] [(0,1,(.k 329)),(1,1,(.k 380)),(2,1,(.k 329)),(3,1,(.k 394)),(4,1,(.k 288)),(5,1,(.c (.i .i64 (-1))))]),.q 52 (.build [.s [],.i .i64 0,.i .i64 0,.i .i64 0,.i .i64 0,.i .i64 0,.i .i64 0] [(0,1,(.c (.s [112,107,101,121,95,109,112,114,111,116,101,99,116]))),(1,6,(.t 51))]),.q 53 (.build [.i .i64 0,.i .i64 0,.i .i64 0,.i .i64 0,.i .i64 0,.i .i64 0] [(0,1,(.k 101)),(1,1,(.k 26)),(2,1,(.k 521)),(3,1,(.k 26)),(4,1,(.k 117)),(5,1,(.k 117))]),.q 54 (.build [.s [],.i .i64 0,.i .i64 0,.i .i64 0,.i .i64 0,.i .i64 0,.i .i64 0] [(0,1,(.c (.s [112,116,114,97,99,101]))),(1,6,(.t 53))]),.q 55 (.build [.i .i64 0,.i .i64 0,.i .i64 0,.i .i64 0,.i .i64 0,.i .i64 0] [(0,1,(.k 0)),(1,1,(.k 3)),(2,1,(.k 0)),(3,1,(.k 3)),(4,1,(.k 63)),(5,1,(.k 63))]),.q 56 (.build [.s [],.i .i64 0,.i .i64 0,.i .i64 0,.i .i64 0,.i .i64 0,.i .i64 0] [(0,1,(.c (.s [114,101,97,100]))),(1,6,(.t 55))]),.q 57 (.build [.i .i64 0,.i .i64 0,.i .i64 0,.i .i64 0,.i .i64 0,.i .i64 0] [(0,1,(.k 169)),(1,1,(.k 88)),(2,1,(.k 169)),(3,1,(.k 88)),(4,1,(.k 142)),(5,1,(.k 142))]),.q 58 (.build [.s [],.i .i64 0,.i .i64 0,.i .i64 0,.i .i64 0,.i .i64 0,.i .i64 0] [(0,1,(.c (.s [114,101,98,111,111,116]))),(1,6,(.t 57))]),.q 59 (.build [.i .i64 0,.i .i64 0,.i .i64 0,.i .i64 0,.i .i64 0,.i .i64 0] [(0,1,(.k 314)),(1,1,(.k 351)),(2,1,(.k 314)),(3,1,(.k 380)),(4,1,(.k 274)),(5,1,(.k 274))]),.q 60 (.build [.s [],.i .i64 0,.i .i64 0,.i .i64 0,.i .i64 0,.i .i64 0,.i .i64 0] [(0,1,(.c (.s [115,99,104,101,100,95,115,101,116,97,116,116,114]))),(1,6,(.t 59))]),.q 61 (.build [.i .i64 0,.i .i64 0,.i .i64 0,.i .i64 0,.i .i64 0,.i .i64 0] [(0,1,(.k 144)),(1,1,(.k 156)),(2,1,(.k 144)),(3,1,(.k 156)),(4,1,(.k 119)),(5,1,(.k 119))]),.q 62 (.build [.s [],.i .i64 0,.i .i64 0,.i .i64 0,.i .i64 0,.i .i64 0,.i .i64 0] [(0,1,(.c (.s [115,99,104,101,100,95,115,101,116,115,99,104,101,100,117,108,101,114]))),(1,6,(.t 61))]),.q 63 (.build [.i .i64 0,.i .i64 0,.i .i64 0,.i .i64 0,.i .i64 0,.i .i64 0] [(0,1,(.k 317)),(1,1,(.k 354)),(2,1,(.k 317)),(3,1,(.k 383)),(4,1,(.k 277)),(5,1,(.k 277))]),.q 64 (.build [.s [],.i .i64 0,.i .i64 0,.i .i64 0,.i .i64 0,.i .i64 0,.i .i64 0] [(0,1,(.c (.s [115,101,99,99,111,109,112]))),(1,6,(.t 63))]),.q 65 (.build [.i .i64 0,.i .i64 0,.i .i64 0,.i .i64 0,.i .i64 0,.i .i64 0] [(0,1,(.k 308)),(1,1,(.k 346)),(2,1,(.k 308)),(3,1,(.k 375)),(4,1,(.k 268)),(5,1,(.k 268))]),.q 66 (.build [.s [],.i .i64 0,.i .i64 0,.i .i64 0,.i .i64 0,.i .i64 0,.i .i64 0] [(0,1,(.c (.s [115,101,116,110,115]))),(1,6,(.t 65))]),.q 67 (.build [.i .i64 0,.i .i64 0,.i .i64 0,.i .i64 0,.i .i64 0,.i .i64 0] [(0,1,(.k 164)),(1,1,(.k 79)),(2,1,(.k 164)),(3,1,(.k 79)),(4,1,(.k 170)),(5,1,(.k 170))]),.q 68 (.build [.s [],.i .i64 0,.i .i64 0,.i .i64 0,.i .i64 0,.i .i64 0,.i .i64 0] [(0,1,(.c (.s [115,101,116,116,105,109,101,111,102,100,97,121]))),(1,6,(.t 67))]),.q 69 (.build [.i .i64 0,.i .i64 0,.i .i64 0,.i .i64 0,.i .i64 0,.i .i64 0] [(0,1,(.k 105)),(1,1,(.k 23)),(2,1,(.k 105)),(3,1,(.k 23)),(4,1,(.k 146)),(5,1,(.k 146))]),.q 70 (.build [.s [],.i .i64 0,.i .i64 0,.i .i64 0,.i .i64 0,.i .i64 0,.i .i64 0] [(0,1,(.c (.s [115,101,116,117,105,100]))),(1,6,(.t 69))]),.q 71 (.build [.i .i64 0,.i .i64 0,.i .i64 0,.i .i64 0,.i .i64 0,.i .i64 0] [(0,1,(.k 30)),(1,1,(.k 397)),(2,1,(.c (.i .i64 (-1)))),(3,1,(.k 305)),(4,1,(.k 196)),(5,1,(.k 196))]),.q 72 (.build [.s [],.i .i64 0,.i .i64 0,.i .i64 0,.i .i64 0,.i .i64 0,.i .i64 0] [(0,1,(.c (.s [115,104,109,97,116]))),(1,6,(.t 71))]),.q 73 (.build [.i .i64 0,.i .i64 0,.i .i64 0,.i .i64 0,.i .i64 0,.i .i64 0] [(0,1,(.k 41)),(1,1,(.k 359)),(2,1,(.k 41)),(3,1,(.k 281)),(4,1,(.k 198)),(5,1,(.k 198))]),.q 74 (.build [.s [],.i .i64 0,.i .i64 0,.i .i64 0,.i .i64 0,.i .i64 0,.i .i64 0] [(0,1,(.c (.s [115,111,99,107,101,116]))),(1,6,(.t 73))]),.q 75 (.build [.i .i64 0,.i .i64 0,.i .i64 0,.i .i64 0,.i .i64 0,.i .i64 0] [(0,1,(.k 166)),(1,1,(.k 52)),(2,1,(.k 166)),(3,1,(.k 52)),(4,1,(.k 39)),(5,1,(.k 39))]),.q 76 (.build [.s [],.i .i64 0,.i .i64 0,.i .i64 0,.i .i64 0,.i .i64 0,.i .i64 0] [(0,1,(.c (.s [117,109,111,117,110,116,50]))),(1,6,(.t 75))]),.q 77 (.build [.i .i64 0,.i .i64 0,.i .i64 0,.i .i64 0,.i .i64 0,.i .i64 0] [(0,1,(.k 272)),(1,1,(.k 310)),(2,1,(.k 272)),(3,1,(.k 337)),(4,1,(.k 97)),(5,1,(.k 97))]),.q 78 (.build [.s [],.i .i64 0,.i .i64 0,.i .i64 0,.i .i64 0,.i .i64 0,.i .i64 0] [(0,1,(.c (.s [117,110,115,104,97,114,101]))),(1,6,(.t 77))]),.q 79 (.build [.i .i64 0,.i .i64 0,.i .i64 0,.i .i64 0,.i .i64 0,.i .i64 0] [(0,1,(.k 1)),(1,1,(.k 4)),(2,1,(.k 1)),(3,1,(.k 4)),(4,1,(.k 64)),(5,1,(.k 64))]),.q 80 (.build [.s [],.i .i64 0,.i .i64 0,.i .i64 0,.i .i64 0,.i .i64 0,.i .i64 0] [(0,1,(.c (.s [119,114,105,116,101]))),(1,6,(.t 79))]),.q 81 (.build [.s [],.i .i64 0,.i .i64 0,.i .i64 0,.i .i64 0,.i .i64 0,.i .i64 0,.s [],.i .i64 0,.i .i64 0,.i .i64 0,.i .i64 0,.i .i64 0,.i .i64 0,.s [],.i .i64 0,.i .i64 0,.i .i64 0,.i .i64 0,.i .i64 0,.i .i64 0,.s [],.i .i64 0,.i .i64 0,.i .i64 0,.i .i64 0,.i .i64 0,.i .i64 0,.s [],.i .i64 0,.i .i64 0,.i .i64 0,.i .i64 0,.i .i64 0,.i .i64 0,.s [],.i .i64 0,.i .i64 0,.i .i64 0,.i .i64 0,.i .i64 0,.i .i64 0,.s [],.i .i64 0,.i .i64 0,.i .i64 0,.i .i64 0,.i .i64 0,.i .i64 0,.s [],.i .i64 0,.i .i64 0,.i .i64 0,.i .i64 0,.i .i64 0,.i .i64 0,.s [],.i .i64 0,.i .i64 0,.i .i64 0,.i .i64 0,.i .i64 0,.i .i64 0,.s [],.i .i64 0,.i .i64 0,.i .i64 0,.i .i64 0,.i .i64 0,.i .i64 0,.s [],.i .i64 0,.i .i64 0,.i .i64 0,.i .i64 0,.i .i64 0,.i .i64 0,.s [],.i .i64 0,.i .i64 0,.i .i64 0,.i .i64 0,.i .i64 0,.i .i64 0,.s [],.i .i64 0,.i .i64 0,.i .i64 0,.i .i64 0,.i .i64 0,.i .i64 0,.s [],.i .i64 0,.i .i64 0,.i .i64 0,.i .i64 0,.i .i64 0,.i .i64 0,.s [],.i .i64 0,.i .i64 0,.i .i64 0,.i .i64 0,.i .i64 0,.i .i64 0,.s [],.i .i64 0,.i .i64 0,.i .i64 0,.i .i64 0,.i .i64 0,.i .i64 0,.s [],.i .i64 0,.i .i64 0,.i .i64 0,.i .i64 0,.i .i64 0,.i .i64 0,.s [],.i .i64 0,.i .i64 0,.i .i64 0,.i .i64 0,.i .i64 0,.i .i64 0,.s [],.i .i64 0,.i .i64 0,.i .i64 0,.i .i64 0,.i .i64 0,.i .i64 0,.s [],.i .i64 0,.i .i64 0,.i .i64 0,.i .i64 0,.i .i64 0,.i .i64 0,.s [],.i .i64 0,.i .i64 0,.i .i64 0,.i .i64 0,.i .i64 0,.i .i64 0,.s [],.i .i64 0,.i .i64 0,.i .i64 0,.i .i64 0,.i .i64 0,.i .i64 0,.s [],.i .i64 0,.i .i64 0,.i .i64 0,.i .i64 0,.i .i64 0,.i .i64 0,.s [],.i .i64 0,.i .i64 0,.i .i64 0,.i .i64 0,.i .i64 0,.i .i64 0,.s [],.i .i64 0,.i .i64 0,.i .i64 0,.i .i64 0,.i .i64 0,.i .i64 0,.s [],.i .i64 0,.i .i64 0,.i .i64 0,.i .i64 0,.i .i64 0,.i .i64 0,.s [],.i .i64 0,.i .i64 0,.i .i64 0,.i .i64 0,.i .i64 0,.i .i64 0,.s [],.i .i64 0,.i .i64 0,.i .i64 0,.i .i64 0,.i .i64 0,.i .i64 0,.s [],.i .i64 0,.i .i64 0,.i .i64 0,.i .i64 0,.i .i64 0,.i .i64 0,.s [],.i .i64 0,.i .i64 0,.i .i64 0,.i .i64 0,.i .i64 0,.i .i64 0,.s [],.i .i64 0,.i .i64 0,.i .i64 0,.i .i64 0,.i .i64 0,.i .i64 0,.s [],.i .i64 0,.i .i64 0,.i .i64 0,.i .i64 0,.i .i64 0,.i .i64 0,.s [],.i .i64 0,.i .i64 0,.i .i64 0,.i .i64 0,.i .i64 0,.i .i64 0,.s [],.i .i64 0,.i .i64 0,.i .i64 0,.i .i64 0,.i .i64 0,.i .i64 0,.s [],.i .i64 0,.i .i64 0,.i .i64 0,.i .i64 0,.i .i64 0,.i .i64 0,.s [],.i .i64 0,.i .i64 0,.i .i64 0,.i .i64 0,.i .i64 0,.i .i64 0,.s [],.i .i64 0,.i .i64 0,.i .i64 0,.i .i64 0,.i .i64 0,.i .i64 0,.s [],.i .i64 0,.i .i64 0,.i .i64 0,.i .i64 0,.i .i64 0,.i .i64 0,.s [],.i .i64 0,.i .i64 0,.i .i64 0,.i .i64 0,.i .i64 0,.i .i64 0,.s [],.i .i64 0,.i .i64 0,.i .i64 0,.i .i64 0,.i .i64 0,.i .i64 0] [(0,7,(.t 2)),(7,7,(.t 4)),(14,7,(.t 6)),(21,7,(.t 8)),(28,7,(.t 10)),(35,7,(.t 12)),(42,7,(.t 14)),(49,7,(.t 16)),(56,7,(.t 18)),(63,7,(.t 20)),(70,7,(.t 22)),(77,7,(.t 24)),(84,7,(.t 26)),(91,7,(.t 28)),(98,7,(.t 30)),(105,7,(.t 32)),(112,7,(.t 34)),(119,7,(.t 36)),(126,7,(.t 38)),(133,7,(.t 40)),(140,7,(.t 42)),(147,7,(.t 44)),(154,7,(.t 46)),(161,7,(.t 48)),(168,7,(.t 50)),(175,7,(.t 52)),(182,7,(.t 54)),(189,7,(.t 56)),(196,7,(.t 58)),(203,7,(.t 60)),(210,7,(.t 62)),(217,7,(.t 64)),(224,7,(.t 66)),(231,7,(.t 68)),(238,7,(.t 70)),(245,7,(.t 72)),(252,7,(.t 74)),(259,7,(.t 76)),(266,7,(.t 78)),(273,7,(.t 80))]),.u (.store 280 (.t 0) (.t 81))]) (.ret))⟩
set_option maxRecDepth 20000 in
theorem qtt(hc:qt P f qcY=true):qe P f [] (.agg (qY.flatMap qbu)):=by
 refine qe.mk hc rfl ?_;simp only[qcY,vI,simprocAttr];simp only[↓vS,vT,simprocAttr,qY,qbu,List.flatMap_cons,List.flatMap_nil,List.getD_cons_zero,List.getD_cons_succ,vZ]
def qb6:IFn:=⟨[.tmp 3],.seq (.r [.q 2 (.box (.t 0)),.m 3 .F]) (.seq (.r [.f 4 0 2,.d 5 4,.d 6 1,.b 7 .eql 5 6,.n 3 7]) (.ret))⟩
theorem qqE(hc:qt P f qb6=true)(s:List UInt8)(x:List UInt8×List Int):qe P f [.agg (qbu x),.pf [.s s] 0] (.b (decide (x.1=s))):=by
 refine qe.mk hc (by simp[qG,clo,qbu]) ?_;simp only[qb6,qbu,vI,simprocAttr];simp only[↓vS,vT,simprocAttr,vZ]
def qdF(a b:Nat):IFn:=⟨[.cell 2 7 true,.tmp 3],.seq (.r [.q 2 (.alloc [.s [],.i .i64 0,.i .i64 0,.i .i64 0,.i .i64 0,.i .i64 0,.i .i64 0]),.m 3 .F]) (.seq (.r [.l 6 a [],.q 4 (.alloc [.s [],.i .i64 0,.i .i64 0,.i .i64 0,.i .i64 0,.i .i64 0,.i .i64 0,.s [],.i .i64 0,.i .i64 0,.i .i64 0,.i .i64 0,.i .i64 0,.i .i64 0,.s [],.i .i64 0,.i .i64 0,.i .i64 0,.i .i64 0,.i .i64 0,.i .i64 0,.s [],.i .i64 0,.i .i64 0,.i .i64 0,.i .i64 0,.i .i64 0,.i .i64 0,.s [],.i .i64 0,.i .i64 0,.i .i64 0,.i .i64 0,.i .i64 0,.i .i64 0,.s [],.i .i64 0,.i .i64 0,.i .i64 0,.i .i64 0,.i .i64 0,.i .i64 0,.s [],.i .i64 0,.i .i64 0,.i .i64 0,.i .i64 0,.i .i64 0,.i .i64 0,.s [],.i .i64 0,.i .i64 0,.i .i64 0,.i .i64 0,.i .i64 0,.i .i64 0,.s [],.i .i64 0,.i .i64 0,.i .i64 0,.i .i64 0,.i .i64 0,.i .i64 0,.s [],.i .i64 0,.i .i64 0,.i .i64 0,.i .i64 0,.i .i64 0,.i .i64 0,.s [],.i .i64 0,.i .i64 0,.i .i64 0,.i .i64 0,.i .i64 0,.i .i64 0,.s [],.i .i64 0,.i .i64 0,.i .i64 0,.i .i64 0,.i .i64 0,.i .i64 0,.s [],.i .i64 0,.i .i64 0,.i .i64 0,.i .i64 0,.i .i64 0,.i .i64 0,.s [],.i .i64 0,.i .i64 0,.i .i64 0,.i .i64 0,.i .i64 0,.i .i64 0,.s [],.i .i64 0,.i .i64 0,.i .i64 0,.i .i64 0,.i .i64 0,.i .i64 0,.s [],.i .i64 0,.i .i64 0,.i .i64 0,.i .i64 0,.i .i64 0,.i .i64 0,.s [],.i .i64 0,.i .i64 0,.i .i64 0,.i .i64 0,.i .i64 0,.i .i64 0,.s [],.i .i64 0,.i .i64 0,.i .i64 0,.i .i64 0,.i .i64 0,.i .i64 0,.s [],.i .i64 0,.i .i64 0,.i .i64 0,.i .i64 0,.i .i64 0,.i .i64 0,.s [],.i .i64 0,.i .i64 0,.i .i64 0,.i .i64 0,.i .i64 0,.i .i64 0,.s [],.i .i64 0,.i .i64 0,.i .i64 0,.i .i64 0,.i .i64 0,.i .i64 0,.s [],.i .i64 0,.i .i64 0,.i .i64 0,.i .i64 0,.i .i64 0,.i .i64 0,.s [],.i .i64 0,.i .i64 0,.i .i64 0,.i .i64 0,.i .i64 0,.i .i64 0,.s [],.i .i64 0,.i .i64 0,.i .i64 0,.i .i64 0,.i .i64 0,.i .i64 0,.s [],.i .i64 0,.i .i64 0,.i .i64 0,.i .i64 0,.i .i64 0,.i .i64 0,.s [],.i .i64 0,.i .i64 0,.i .i64 0,.i .i64 0,.i .i64 0,.i .i64 0,.s [],.i .i64 0,.i .i64 0,.i .i64 0,.i .i64 0,.i .i64 0,.i .i64 0,.s [],.i .i64 0,.i .i64 0,.i .i64 0,.i .i64 0,.i .i64 0,.i .i64 0,.s [],.i .i64 0,.i .i64 0,.i .i64 0,.i .i64 0,.i .i64 0,.i .i64 0,.s [],.i .i64 0,.i .i64 0,.i .i64 0,.i .i64 0,.i .i64 0,.i .i64 0,.s [],.i .i64 0,.i .i64 0,.i .i64 0,.i .i64 0,.i .i64 0,.i .i64 0,.s [],.i .i64 0,.i .i64 0,.i .i64 0,.i .i64 0,.i .i64 0,.i .i64 0,.s [],.i .i64 0,.i .i64 0,.i .i64 0,.i .i64 0,.i .i64 0,.i .i64 0,.s [],.i .i64 0,.i .i64 0,.i .i64 0,.i .i64 0,.i .i64 0,.i .i64 0,.s [],.i .i64 0,.i .i64 0,.i .i64 0,.i .i64 0,.i .i64 0,.i .i64 0,.s [],.i .i64 0,.i .i64 0,.i .i64 0,.i .i64 0,.i .i64 0,.i .i64 0,.s [],.i .i64 0,.i .i64 0,.i .i64 0,.i .i64 0,.i .i64 0,.i .i64 0,.s [],.i .i64 0,.i .i64 0,.i .i64 0,.i .i64 0,.i .i64 0,.i .i64 0,.s [],.i .i64 0,.i .i64 0,.i .i64 0,.i .i64 0,.i .i64 0,.i .i64 0,.s [],.i .i64 0,.i .i64 0,.i .i64 0,.i .i64 0,.i .i64 0,.i .i64 0]),.u (.store 280 (.t 4) (.t 6))]) (.seq (.r [.q 7 (.slcA 40 7 (.t 4) none none none),.n 8 0,.l 9 b [.t 7,.t 8],.n 5 9]) (.seq (.seq (.r [.n 10 5,.w 11 .lss 10 0]) (.cond (.t 11) (.seq (.r [.q 12 (.build [.s [],.i .i64 0,.i .i64 0,.i .i64 0,.i .i64 0,.i .i64 0,.i .i64 0] []),.u (.store 7 (.t 2) (.t 12)),.m 3 .F]) (.ret)) (.skip))) (.seq (.r [.n 13 5,.q 14 (.iAddrA 40 7 (.t 4) (.t 13)),.v 15 7 14,.u (.store 7 (.t 2) (.t 15)),.m 3 .T]) (.ret)))))⟩
def qlc(p:List UInt8×List Int->Bool):AV:=match qY.find? p with|some x=>.tup [.agg (qbu x),.b true]|none=>.tup [.agg [.s [],.i .i64 0,.i .i64 0,.i .i64 0,.i .i64 0,.i .i64 0,.i .i64 0],.b false]
set_option maxRecDepth 20000 in
theorem qrr{g1 g2:Nat}(hc:qt P f (qdF g1 g2)=true)(h1:qe P g1 [] (.agg (qY.flatMap qbu)))(h2:qeH 7 P g2)(p:List UInt8×List Int->Bool)(g:Nat)(a c:List AV)(ha:qG a=true)(hcc:qG c=true)
  (hp:∀x ∈ qY,qe P g (a++([.agg (qbu x)]++c)) (.b (p x))):qe P f [.fn g a c] (qlc p):=by
 refine qe.mk hc (by simp[qG,clo,ha,hcc]) ?_;simp only[qdF,vI,simprocAttr];simp only[↓vS,vT,simprocAttr];refine h1.sc ?_;have hlen:(qY.flatMap qbu).length=280:=by decide
 have hok:qz (qY.flatMap qbu)=true:=by decide
 have hcl:qG (qY.flatMap qbu)=true:=by decide
 generalize hT:qY.flatMap qbu=T at hlen hok hcl;have htk:T.take 280=T:=List.take_of_length_le (by omega);simp only[↓vS,vT,simprocAttr,hlen,hok];refine (h2 qbu p g a c qY qiC ha hcc (by decide) hp).lend (vs':=[.fz 40 (qY.flatMap qbu),.fn g a c]) ?_ rfl ?_
 ·refine .cons _ _ _ _ (.cut 7 rfl (Nat.le_refl _) ?_) (.cons _ _ _ _ (.fn _ _ _ _ _ (Frzs.self ha) (Frzs.self hcc)) .nil);rw[hT];simp[vw,hlen,htk,qI hcl]
 rcases qgT p qY 0 with⟨e1,e2⟩|⟨i,x,e1,e2,e3,e4,e5⟩
 ·rw[e1];simp only[↓vS,vT,simprocAttr];simp[vZ,qlc,e2]
 ·have hi:i<40:=(List.getElem?_eq_some_iff.1 e2).1;have hn:¬(i:Int)<0:=by omega
  have he:(T.drop (i*7)).take 7=qbu x:=by rw[← hT];exact j0 (f:=qbu) (m:=7) qiC e2
  have hb:i*7<=273:=by omega
  rw[e1,Nat.zero_add];simp only[↓vS,vT,simprocAttr,hn,hi,he,hb,hlen,qbu];simp[vZ,qlc,e4,qbu]
def qcX(a b:Nat):IFn:=⟨[.tmp 2],.seq (.r [.q 1 (.box (.t 0)),.m 2 .F]) (.seq (.r [.q 6 (.mkF a [] [.t 1]),.l 7 b [.t 6],.n 5 7,.x 8 5 0,.x 9 5 1,.q 3 (.alloc [.s [],.i .i64 0,.i .i64 0,.i .i64 0,.i .i64 0,.i .i64 0,.i .i64 0]),.u (.store 7 (.t 3) (.t 8)),.n 4 9]) (.seq (.r [.n 10 4,.n 2 10]) (.ret)))⟩
def jd(s:List UInt8):Bool:=(qY.find? (fun x=>decide (x.1=s))).isSome
theorem qrY{g1 g2:Nat}(hc:qt P f (qcX g1 g2)=true)(h1:∀s x,qe P g1 [.agg (qbu x),.pf [.s s] 0] (.b (decide (x.1=s))))
  (h2:∀(p:List UInt8×List Int->Bool) (g:Nat) (a c:List AV),qG a=true->qG c=true->(∀x ∈ qY,qe P g (a++([.agg (qbu x)]++c)) (.b (p x)))->qe P g2 [.fn g a c] (qlc p)) (s:List UInt8):qe P f [.s s] (.b (jd s)):=by
 refine qe.mk hc rfl ?_;simp only[qcX,vI,simprocAttr];simp only[↓vS,vT,simprocAttr];refine (h2 (fun x=>decide (x.1=s)) g1 [] [.pf [.s s] 0] rfl rfl (fun x _=>h1 s x)).lend (vs':=[.fn g1 [] [.pf [.s s] 0]]) ?_ ?_ ?_
 ·simp[vZ,vP,Tr.get_set]
 ·unfold qlc;split<;>rfl
 unfold qlc jd;cases qY.find? (fun x=>decide (x.1=s)) with
 | none =>
  simp only[↓vS,vT,simprocAttr];simp[vZ]
 | some x =>
  simp only[↓vS,vT,simprocAttr,qbu];simp[vZ]
end Go.Kc
end
section
/- May a list be: what fold.May answers. Condition: the function's text is this. -/
namespace Go.Kc
variable {P:Program} {f:Nat}
def okC(c:GCall):Bool:=jd c.name&&qdw c.act
noncomputable def zT:Option GCall->List GCall->Bool
 | _,[]=>true
 | o,c::l=>okC c&&(o.elim true fun b=>ltS b.name c.name)&&zT (some c) l
noncomputable def x5(l:GList):Bool:=decide (l.mode<=2)&&(decide (l.mode≠0)||decide (l.calls=[]))&&zT none l.calls
def qbe(a b:Nat):ICode:=.seq (.seq (.r [.f 19 1 1,.d 20 19,.e 21 20,.m 22 (.k 0)]) (.blk 0 (.loop (.seq (.r [.s 23 22 21]) (.seq (.cond (.t 23) (.skip) (.exit 0)) (.seq (.blk 1 (.seq (.r [.n 24 22,.i 25 2 20 22,.v 26 2 25,.q 4 (.alloc [.s [],.i .u32 0]),.n 3 24,.u (.store 2 (.t 4) (.t 26))]) (.seq (.reg true [.f 27 0 4,.d 28 27,.l 29 a [.t 28],.q 30 (.un .not (.t 29)),.n 31 30,.h 32 1 4 31 false,.j 33 32 31 false,⟨(some 34),.callF b [.t 33],(some (31,false))⟩,.g 35 (.un .not (.t 34)) 31 false,.o 36 31 35,.n 37 36,.z 38 3 37,.g 39 (.bin .gtr (.t 38) (.k 0)) 37 false,.z 40 39 37,.h 41 1 1 40 true,.j 42 41 40 true,.y 43 3 40,.g 44 (.bin .sub (.t 43) (.k 1)) 40 true,.g 45 (.iAddrS 2 (.t 42) (.t 44)) 40 true,.h 46 0 45 40 true,.j 47 46 40 true,.h 48 0 4 40 true,.j 49 48 40 true,.g 50 (.bin .geq (.t 47) (.t 49)) 40 true,.g 51 (.pick (.t 40) (.t 50) .F) 37 false,.o 52 37 51]) (.cond (.t 52) (.seq (.r [.m 2 .F]) (.ret)) (.skip))))) (.r [.a 53 22 1,.n 22 53]))))))) (.seq (.r [.m 2 .T]) (.ret))
def qe9(a b:Nat):IFn:=⟨[.tmp 2],.seq (.r [.q 1 (.box (.t 0)),.m 2 .F]) (.seq (.seq (.r [.f 5 0 1,.d 6 5,.q 7 (.bin .gtr (.t 6) (.c (.i .u8 2))),.n 8 7,.h 9 0 1 8 false,.j 10 9 8 false,.g 11 (.bin .eql (.t 10) (.c (.i .u8 0))) 8 false,.z 12 11 8,.h 13 1 1 12 true,.j 14 13 12 true,.g 15 (.len false (.t 14)) 12 true,.g 16 (.bin .gtr (.t 15) (.k 0)) 12 true,.g 17 (.pick (.t 12) (.t 16) .F) 8 false,.o 18 8 17]) (.cond (.t 18) (.seq (.r [.m 2 .F]) (.ret)) (.skip))) (.cut (qbe a b)))⟩
theorem qnf{g1 g2:Nat}(h1:∀s,qe P g1 [.s s] (.b (jd s)))(h2:∀n,qe P g2 [.i .u32 n] (.b (qdw n)))(l:GList)(hl:l.calls.length<=100000){t':Tr AV}{h':Hp}(hw:Wk 0 t' h' (mkT [(1,.ptr 0 0),(2,.b false)]) (mkH 0 [.cells 0 true false (qu l)])) :
  S P 0 (qbe g1 g2) (jD [.tmp 2] fun v' h'=>Frz h' v' (.b (zT none l.calls))) t' h':=by
 refine S.weak hw (qr ?_);simp only[qbe,qu,vI,simprocAttr];simp only[↓vS,vT,simprocAttr]
 refine SL.loop (α:=Nat) (fun j=>[(1,.ptr 0 0),(2,.b false),(20,.fz l.calls.length (rC l.calls)),(21,.i .i64 l.calls.length),(22,.i .i64 j)]) (fun _=>[.cells 0 true false (qu l)])
  (fun j=>j<=l.calls.length∧zT none l.calls=zT (if j=0 then none else l.calls[j-1]?) (l.calls.drop j)) (fun j=>l.calls.length-j) 0 [0] ?_ ?_ ?_ rfl ?_ ?_
 ·simp[vw,qc]
 ·simp[vw,qu]
 ·simp
 ·exact⟨Nat.zero_le _,rfl⟩
 rintro j ⟨hj,hI⟩ G ih;simp only[vI,simprocAttr,qu]
 by_cases hlt:j<l.calls.length
 ·have hx:l.calls[j]?=some l.calls[j]:=List.getElem?_eq_getElem hlt;have he:=qcw hx;have hb:=qbp hlt;have hw:IntKind.wrap .i64 ((j:Int)+1)=((j+1:Nat):Int):=by rw[qF (by omega) (by omega)];omega
  rw[List.drop_eq_getElem_cons hlt,zT] at hI;have hnx:l.calls[j]?=some l.calls[j]:=hx;generalize hc0:l.calls[j]=c at hI he hx;simp only[↓vS,vT,simprocAttr,hlt,hb,he,zf];refine xb ?_;simp only[↓vS,vT,simprocAttr];refine (h1 c.name).pc ?_;cases hk:jd c.name with
  | false =>
   have hw:zT none l.calls=false:=by rw[hI];simp[okC,hk]
   simp only[↓vS,vT,simprocAttr];simp[vZ,hw]
  | true =>
   simp only[↓vS,vT,simprocAttr];refine (h2 c.act).pc ?_;cases hac:qdw c.act with
   | false =>
    have hw:zT none l.calls=false:=by rw[hI];simp[okC,hac]
    simp only[↓vS,vT,simprocAttr];simp[vZ,hw]
   | true =>
    have hok:okC c=true:=by simp[okC,hk,hac]
    by_cases h0:j=0
    ·subst h0;have hn:¬(0:Int)<((0:Nat):Int):=by decide
     simp only[↓vS,vT,simprocAttr,hn,hw];refine ih 1 ⟨by omega,?_⟩ (by omega) _ _ (Wk.mk _ _ [0] ?_ ?_ ?_ rfl)
     ·rw[hI,hok];simp[hx]
     ·simp[vw,qc];exact qF (by decide) (by decide)
     ·simp[vw,qu]
     ·simp
    ·have hp:(0:Int)<(j:Int):=by omega
     have hpl:j-1<l.calls.length:=by omega
     have hy:l.calls[j-1]?=some l.calls[j-1]:=List.getElem?_eq_getElem hpl;have hw2:IntKind.wrap .i64 ((j:Int)-1)=((j-1:Nat):Int):=by rw[qF (by omega) (by omega)];omega
     have g0:(rC l.calls)[(j-1)*2]?=some (.s l.calls[j-1].name):=qgq hy (i:=0) (by decide);rw[if_neg h0,hy] at hI;cases hlt2:ltS l.calls[j-1].name c.name with
     | false =>
      have hwf:zT none l.calls=false:=by rw[hI];simp[hlt2]
      simp only[↓vS,vT,simprocAttr,hp,hw2,hpl,g0,hlt2];simp[vZ,hwf]
     | true =>
      simp only[↓vS,vT,simprocAttr,hp,hw2,hpl,g0,hlt2,hw];refine ih (j+1) ⟨by omega,?_⟩ (by omega) _ _ (Wk.mk _ _ [0] ?_ ?_ ?_ rfl)
      ·rw[hI,hok];simp[hlt2,hx]
      ·simp[vw,qc]
      ·simp[vw,qu]
      ·simp
 ·rw[List.drop_of_length_le (by omega),zT] at hI;simp only[↓vS,vT,simprocAttr,hlt];simp[vZ,hI]
theorem qvj{g1 g2:Nat}(hc:qt P f (qe9 g1 g2)=true)(h1:∀s,qe P g1 [.s s] (.b (jd s)))(h2:∀n,qe P g2 [.i .u32 n] (.b (qdw n)))(l:GList)(hl:l.calls.length<=100000):qe P f [.agg (qu l)] (.b (x5 l)):=by
 refine qe.mk hc rfl ?_;simp only[qe9,qu,vI,simprocAttr]
 by_cases m1:2<l.mode
 ·have hw:x5 l=false:=by simp[x5];omega
  simp only[↓vS,vT,simprocAttr,m1];simp[vZ,hw]
 have tail:(l.mode≠0∨l.calls=[])->x5 l=zT none l.calls:=fun h=>by
  have:(decide (l.mode<=2)&&(decide (l.mode≠0)||decide (l.calls=[])))=true:=by
   simp only[Bool.and_eq_true,Bool.or_eq_true,decide_eq_true_eq];exact⟨by omega,h⟩
  unfold x5;rw[this];rfl
 by_cases m2:l.mode=0
 ·by_cases m3:(0:Int)<l.calls.length
  ·have hne:l.calls≠[]:=by intro h;rw[h] at m3;simp at m3
   have hw:x5 l=false:=by simp[x5,m2,hne]
   simp only[↓vS,vT,simprocAttr,m1,m2,m3];simp[vZ,hw]
  ·have hz:l.calls=[]:=List.eq_nil_of_length_eq_zero (by omega);rw[tail (.inr hz)];simp only[↓vS,vT,simprocAttr,m1,m2,m3];refine qnf h1 h2 l hl (Wk.mk _ _ [0] ?_ ?_ ?_ rfl)
   ·simp[vw]
   ·simp[vw,qu,m2]
   ·simp
 ·rw[tail (.inl m2)];simp only[↓vS,vT,simprocAttr,m1,m2];refine qnf h1 h2 l hl (Wk.mk _ _ [0] ?_ ?_ ?_ rfl)
  ·simp[vw]
  ·simp[vw,qu]
  ·simp
end Go.Kc
end
section
/- What fold.Put and fold.Take answer. Condition: the functions' texts are these. -/
namespace Go.Kc
variable {P:Program} {f:Nat}
def qwX(P:Program)(f:Nat):Prop:=∀l:GList,l.calls.length<=100000->qe P f [.agg (qu l)] (.b (x5 l))
def qfs(a b c d:Nat):ICode:=.seq (.seq (.r [.v 7 2 2,.l 8 b [.t 7]]) (.cond (.t 8) (.r [.f 9 1 2,.d 10 9,.q 11 (.mkF c [] [.t 3]),.l 12 d [.t 10,.t 11],.f 13 1 2,.u (.store 1 (.t 13) (.t 12))]) (.skip))) (.seq (.r [.v 14 2 2,.u (.store 2 (.t 4) (.t 14))]) (.ret))
def qpm(a b c d:Nat):IFn:=⟨[.cell 4 2 true],.seq (.r [.q 2 (.box (.t 0)),.q 3 (.box (.t 1)),.q 4 (.alloc [.i .u8 0,.nils])]) (.seq (.r [.v 5 2 2,.l 6 a [.t 5],.u (.store 2 (.t 2) (.t 6))]) (.cut (qfs a b c d)))⟩
def qf9(a b c d e:Nat):ICode:=.seq (.seq (.r [.v 12 2 3,.l 13 b [.t 12],.q 14 (.un .not (.t 13))]) (.cond (.t 14) (.seq (.r [.v 15 2 3,.u (.store 2 (.t 6) (.t 15))]) (.ret)) (.skip))) (.seq (.r [.n 16 1,.n 17 2,.q 18 (.build [.s [],.i .u32 0] [(0,1,(.t 16)),(1,1,(.t 17))]),.q 7 (.alloc [.s [],.i .u32 0]),.u (.store 2 (.t 7) (.t 18))]) (.seq (.r [.f 20 1 3,.d 21 20,.n 22 1,.l 23 c [.t 21,.t 22,(.c (.fn d [] []))],.n 19 23,.x 24 19 0,.x 25 19 1,.n 8 24,.n 9 25]) (.seq (.seq (.r [.n 26 9]) (.cond (.t 26) (.r [.f 27 1 3,.d 28 27,.n 29 8,.v 30 2 7,.i 31 2 28 29,.u (.store 2 (.t 31) (.t 30))]) (.r [.f 32 1 3,.d 33 32,.n 34 8,.v 35 2 7,.q 36 (.buildS 1 [.s [],.i .u32 0] [(0,2,(.t 35))]),.l 37 e [.t 33,.t 34,.t 36],.f 38 1 3,.u (.store 1 (.t 38) (.t 37))]))) (.seq (.r [.v 39 2 3,.u (.store 2 (.t 6) (.t 39))]) (.ret)))))
def qqB(a b c d e:Nat):IFn:=⟨[.cell 6 2 true],.seq (.r [.q 3 (.box (.t 0)),.q 6 (.alloc [.i .u8 0,.nils])]) (.seq (.r [.v 10 2 3,.l 11 a [.t 10],.u (.store 2 (.t 3) (.t 11))]) (.cut (qf9 a b c d e)))⟩
end Go.Kc
end
section
/- What a list's lines are read by: fold.ins, values.Read. Condition: the functions' texts are these. -/
namespace Go.Kc
variable {P:Program} {f:Nat}
def qqC:IFn:=⟨[.cell 0 4 true],.seq (.r [.q 0 (.alloc [.b false,.b false,.b false,.b false])]) (.seq (.r [.q 1 (.build [.b false,.b false] [(0,1,.T),(1,1,.F)]),.q 2 (.build [.b false,.b false] [(0,1,.F),(1,1,.T)]),.q 3 (.build [.b false,.b false,.b false,.b false] [(0,2,(.t 1)),(2,2,(.t 2))]),.u (.store 4 (.t 0) (.t 3))]) (.ret))⟩
def qeg(a:Nat):IFn:=⟨[.tmp 4],.seq (.r [.m 4 (.k 0)]) (.seq (.r [.n 5 0,.n 6 1,.l 7 a [.t 5,.t 6],.n 4 7]) (.ret))⟩
def qfa(a b c d:Nat):IFn:=⟨[.tmp 4],.seq (.r [.m 4 (.k 0)]) (.seq (.r [.n 14 1,.q 15 (.len true (.t 14)),.n 5 15]) (.seq (.blk 0 (.seq (.r [.n 17 5,.w 18 .eql 17 0,.n 19 18,.z 20 1 19,.z 21 0 19,.g 22 (.bin .eql (.t 20) (.t 21)) 19 false,.o 23 19 22,.n 16 23]) (.cond (.t 16) (.seq (.r [.m 4 (.k 0)]) (.ret)) (.seq (.r [.n 25 5,.w 26 .eql 25 1,.n 24 26]) (.cond (.t 24) (.seq (.r [.n 27 0,.n 28 1,.q 29 (.idxS (.t 28) (.k 0)),.l 30 a [.t 27,.t 29],.n 4 30]) (.ret)) (.seq (.r [.n 32 5,.n 33 0,.q 34 (.len true (.t 33)),.b 35 .geq 32 34,.n 31 35]) (.cond (.t 31) (.seq (.r [.q 4 (.mov (.c (.i .i64 (-1))))]) (.ret)) (.seq (.r [.n 37 5,.q 38 (.no),.b 39 .leq 37 38,.n 40 39,.y 41 0 40,.g 42 (.len true (.t 41)) 40 true,.g 43 (.bin .leq (.t 42) (.k 64)) 40 true,.p 44 40 43,.n 36 44]) (.cond (.t 36) (.seq (.r [.n 45 0,.n 46 1,.l 47 b [.t 45,.t 46],.n 4 47]) (.ret)) (.skip)))))))))) (.seq (.r [.n 48 1,.q 49 (.idxS (.t 48) (.k 0)),.n 6 49]) (.seq (.r [.n 50 1,.q 51 (.idxS (.t 50) (.k 1)),.n 7 51]) (.seq (.r [.m 8 (.k 0)]) (.seq (.r [.n 52 0,.q 53 (.len true (.t 52)),.n 54 5,.b 55 .sub 53 54,.a 56 55 1,.n 9 56]) (.seq (.r [.m 10 (.k 0)]) (.seq (.blk 1 (.loop (.seq (.seq (.r [.n 57 8,.n 58 9,.s 59 57 58]) (.cond (.t 59) (.skip) (.exit 1))) (.blk 2 (.seq (.seq (.r [.n 60 0,.n 61 8,.q 62 (.idxS (.t 60) (.t 61)),.n 63 6,.b 64 .neq 62 63]) (.cond (.t 64) (.seq (.r [.n 65 0,.n 66 8,.a 67 66 1,.n 68 9,.q 69 (.slcStr (.t 65) (some (.t 67)) (some (.t 68))),.n 70 6,.l 71 a [.t 69,.t 70],.n 11 71]) (.seq (.seq (.r [.n 72 11,.w 73 .lss 72 0]) (.cond (.t 73) (.seq (.r [.q 4 (.mov (.c (.i .i64 (-1))))]) (.ret)) (.skip))) (.r [.n 74 8,.n 75 11,.a 76 75 1,.b 77 .add 74 76,.n 8 77]))) (.skip))) (.seq (.seq (.r [.n 78 0,.n 79 8,.a 80 79 1,.q 81 (.idxS (.t 78) (.t 80)),.n 82 7,.b 83 .eql 81 82,.n 84 83,.y 85 0 84,.y 86 8 84,.y 87 8 84,.y 88 5 84,.g 89 (.bin .add (.t 87) (.t 88)) 84 true,.g 90 (.slcStr (.t 85) (some (.t 86)) (some (.t 89))) 84 true,.y 91 1 84,.g 92 (.bin .eql (.t 90) (.t 91)) 84 true,.p 93 84 92]) (.cond (.t 93) (.seq (.r [.n 94 8,.n 4 94]) (.ret)) (.skip))) (.seq (.r [.n 95 8,.a 96 95 1,.n 8 96]) (.seq (.r [.n 97 10,.a 98 97 1,.n 10 98]) (.seq (.r [.n 99 5,.q 100 (.no),.b 101 .leq 99 100,.n 102 101,.y 103 10 102,.y 104 8 102,⟨(some 105),.callF c [.t 104],(some (102,true))⟩,.g 106 (.bin .gtr (.t 103) (.t 105)) 102 true,.p 107 102 106]) (.cond (.t 107) (.seq (.r [.n 108 0,.n 109 8,.q 110 (.slcStr (.t 108) (some (.t 109)) none),.n 111 1,.l 112 b [.t 110,.t 111],.n 12 112]) (.seq (.seq (.r [.n 113 12,.w 114 .geq 113 0]) (.cond (.t 114) (.seq (.r [.n 115 12,.n 116 8,.b 117 .add 115 116,.n 4 117]) (.ret)) (.skip))) (.seq (.r [.q 4 (.mov (.c (.i .i64 (-1))))]) (.ret)))) (.seq (.r [.n 118 5,.q 119 (.no),.b 120 .gtr 118 119,.n 121 120,.y 122 10 121,.y 123 8 121,.g 124 (.bin .shr (.t 123) (.c (.i .u64 4))) 121 true,.g 125 (.bin .add (.k 4) (.t 124)) 121 true,.g 126 (.bin .geq (.t 122) (.t 125)) 121 true,.p 127 121 126,.n 128 127,.y 129 8 128,.y 130 9 128,.g 131 (.bin .lss (.t 129) (.t 130)) 128 true,.p 132 128 131]) (.cond (.t 132) (.seq (.r [.n 133 0,.n 134 8,.q 135 (.slcStr (.t 133) (some (.t 134)) none),.n 136 1,.l 137 d [.t 135,.t 136],.n 13 137]) (.seq (.seq (.r [.n 138 13,.w 139 .lss 138 0]) (.cond (.t 139) (.seq (.r [.q 4 (.mov (.c (.i .i64 (-1))))]) (.ret)) (.skip))) (.seq (.r [.n 140 8,.n 141 13,.b 142 .add 140 141,.n 4 142]) (.ret)))) (.skip))))))))))))) (.seq (.r [.q 4 (.mov (.c (.i .i64 (-1))))]) (.ret))))))))))⟩
def qfG(a:Nat):IFn:=⟨[.tmp 4,.tmp 5,.tmp 6],.seq (.r [.m 4 (.c (.s [])),.m 5 (.c (.s [])),.m 6 .F]) (.seq (.seq (.r [.n 8 0,.n 9 1,.l 10 a [.t 8,.t 9],.n 7 10]) (.seq (.r [.n 11 7,.w 12 .geq 11 0]) (.cond (.t 12) (.seq (.reg true [.n 13 0,.n 14 7,.q 15 (.slcStr (.t 13) none (some (.t 14))),.n 16 0,.n 17 7,.n 18 1,.q 19 (.len true (.t 18)),.b 20 .add 17 19,.q 21 (.slcStr (.t 16) (some (.t 20)) none),.n 4 15,.n 5 21,.m 6 .T]) (.ret)) (.skip)))) (.seq (.r [.n 22 0,.n 4 22,.m 5 (.c (.s [])),.m 6 .F]) (.ret)))⟩
def qmK(a:Nat):IFn:=⟨[.tmp 4,.tmp 5,.tmp 6],.seq (.r [.m 4 (.c (.s [])),.m 5 (.c (.s [])),.m 6 .F]) (.seq (.r [.n 7 0,.n 8 1,.l 9 a [.t 7,.t 8],.x 10 9 0,.x 11 9 1,.x 12 9 2,.n 4 10,.n 5 11,.n 6 12]) (.ret))⟩
structure Word where
 name:List UInt8
 act:Int
 has:Bool
def qmM(a b:Nat):IFn:=⟨[.cell 2 3 true,.tmp 3],.seq (.r [.q 2 (.alloc [.s [],.i .u32 0,.b false]),.m 3 (.k 0)]) (.seq (.r [.n 11 0,.l 12 a [.t 11,(.c (.s [58]))],.n 10 12,.x 13 10 0,.x 14 10 1,.x 15 10 2,.n 4 13,.n 5 14,.n 6 15]) (.seq (.seq (.r [.n 16 4,.q 17 (.bin .eql (.t 16) (.c (.s [])))]) (.cond (.t 17) (.seq (.r [.q 18 (.build [.s [],.i .u32 0,.b false] []),.u (.store 3 (.t 2) (.t 18)),.m 3 (.k 161)]) (.ret)) (.skip))) (.seq (.r [.n 19 4,.n 20 6,.q 21 (.build [.s [],.i .u32 0,.b false] [(0,1,(.t 19)),(2,1,(.t 20))]),.q 7 (.alloc [.s [],.i .u32 0,.b false]),.u (.store 3 (.t 7) (.t 21))]) (.seq (.blk 0 (.seq (.r [.n 35 6,.q 36 (.un .not (.t 35)),.n 34 36]) (.cond (.t 34) (.skip) (.seq (.r [.n 38 5,.q 39 (.bin .eql (.t 38) (.c (.s [107,105,108,108]))),.n 37 39]) (.cond (.t 37) (.r [.f 40 1 7,.u (.store 1 (.t 40) (.c (.i .u32 2147483648)))]) (.seq (.r [.n 23 5,.l 24 b [.t 23],.n 22 24,.x 25 22 0,.x 26 22 1,.n 8 25,.n 9 26]) (.seq (.seq (.r [.n 27 9,.w 28 .neq 27 0]) (.cond (.t 28) (.seq (.r [.q 29 (.build [.s [],.i .u32 0,.b false] []),.n 30 9,.u (.store 3 (.t 2) (.t 29)),.n 3 30]) (.ret)) (.skip))) (.r [.n 31 8,.q 32 (.bin .or (.c (.i .u32 327680)) (.t 31)),.f 33 1 7,.u (.store 1 (.t 33) (.t 32))])))))))) (.seq (.r [.v 41 3 7,.u (.store 3 (.t 2) (.t 41)),.m 3 (.k 0)]) (.ret))))))⟩
end Go.Kc
end
section
/- Lists and notes are the same as themselves. Condition: the functions' texts are these. -/
namespace Go.Kc
variable {P:Program} {f:Nat}
end Go.Kc
end
section
/- What a word of a list stands for: fold.members, of what groups.Expand answers. Condition: the functions' texts are these. -/
namespace Go.Kc
variable {P:Program} {f:Nat}
def qin(a:Nat):IFn:=⟨[.tmp 4],.seq (.r [.m 4 .F]) (.seq (.r [.n 5 0,.n 6 1,.l 7 a [.t 5,.t 6],.n 4 7]) (.ret))⟩
def qll(a b c:Nat):IFn:=⟨[.tmp 2,.tmp 3],.seq (.r [.m 2 .N,.m 3 (.k 0)]) (.seq (.blk 0 (.seq (.r [.n 5 0,.l 6 a [.t 5,(.c (.s [64]))],.n 4 6]) (.cond (.t 4) (.seq (.r [.n 7 0,.l 8 b [.t 7],.x 9 8 0,.x 10 8 1,.n 2 9,.n 3 10]) (.ret)) (.seq (.r [.n 12 0,.l 13 c [.t 12],.n 11 13]) (.cond (.t 11) (.seq (.r [.n 14 0,.q 15 (.buildS 1 [.s []] [(0,1,(.t 14))]),.n 2 15,.m 3 (.k 0)]) (.ret)) (.skip)))))) (.seq (.r [.m 2 .N,.m 3 (.k 90)]) (.ret)))⟩
end Go.Kc
end
section
/- A note of a word: what fold.Step's closure does. Condition: the function's text is this. -/
namespace Go.Kc
variable {P:Program} {f:Nat}
def qmF:IFn:=⟨[],.reg true [.d 4 1,.n 5 0,.d 6 2,.d 7 2,.q 8 (.len true (.t 7)),.q 9 (.min (.t 8) (.k 60)),.q 10 (.slcStr (.t 6) none (some (.t 9))),.q 11 (.build [.s [],.i .i64 0,.i .i64 0,.s []] [(2,1,(.t 5)),(3,1,(.t 10))]),.q 12 (.buildS 1 [.s [],.i .i64 0,.i .i64 0,.s []] [(0,4,(.t 11))]),.q 13 (.app 4 48 true (.t 4) (.t 12)),.u (.store 1 (.t 1) (.t 13))]⟩
end Go.Kc
end
section
/- What fold.Step makes of a list, in plain words. No condition. -/
namespace Go.Kc
variable (E:List UInt8->List (List UInt8)×Int)
end Go.Kc
end
section
/- The order of names; lists that rise; what Put and Take make of these. No condition. -/
namespace Go.Kc
theorem qjF:∀a:List UInt8,ltS a a=false
 | []=>rfl
 | c::x=>by rw[qc8,if_neg (UInt8.lt_irrefl c),if_pos rfl];exact qjF x
theorem qg5:∀{a b c:List UInt8},ltS a b=true->ltS b c=true->ltS a c=true
 | _,[],[],_,h2=>by simp[qjG] at h2
 | _,_::_,[],_,h2=>by simp[qgd] at h2
 | [],_,_::_,_,_=>rfl
 | _::_,[],_::_,h1,_=>by simp[qgd] at h1
 | a::x,b::y,c::z,h1,h2=>by
  rw[qc8] at h1 h2 ⊢;simp only[UInt8.lt_iff_toNat_lt,← UInt8.toNat_inj] at h1 h2 ⊢
  by_cases e1:a.toNat<b.toNat
  ·by_cases e2:b.toNat<c.toNat
   ·rw[if_pos (by omega)]
   ·rw[if_neg e2] at h2;split at h2
    ·rw[if_pos (by omega)]
    ·cases h2
  ·rw[if_neg e1] at h1;split at h1
   ·rename_i e3
    by_cases e2:b.toNat<c.toNat
    ·rw[if_pos (by omega)]
    ·rw[if_neg e2] at h2;split at h2
     ·rw[if_neg (by omega),if_pos (by omega)];exact qg5 h1 h2
     ·cases h2
   ·cases h1
theorem qsj{a b:List UInt8}(h:ltS a b=true):a≠b:=by
 intro e;rw[e,qjF] at h;cases h
def Up(l:List GCall):Prop:=l.Pairwise fun a b=>ltS a.name b.name=true
theorem qgx:∀(o:Option GCall) (l:List GCall),zT o l=true↔((∀c ∈ l,okC c=true)∧Up l∧∀b,o=some b->∀c ∈ l,ltS b.name c.name=true)
 | o,[]=>by simp[zT,Up]
 | o,c::l=>by
  have ih:=qgx (some c) l;simp only[zT,Bool.and_eq_true,ih,Up,List.pairwise_cons,List.mem_cons,forall_eq_or_imp];constructor
  ·rintro⟨⟨h1,h2⟩,h3,h4,h5⟩;refine⟨⟨h1,h3⟩,⟨h5 c rfl,h4⟩,?_⟩;rintro b rfl;exact⟨h2,fun d hd=>qg5 h2 (h5 c rfl d hd)⟩
  ·rintro⟨⟨h1,h3⟩,⟨h5,h4⟩,h6⟩;refine⟨⟨h1,?_⟩,h3,h4,?_⟩
   ·cases o with
    | none=>rfl
    | some b=>exact (h6 b rfl).1
   ·rintro b hb;cases hb;exact h5
theorem qiy(l:GList):x5 l=true↔(l.mode<=2∧(l.mode≠0∨l.calls=[]))∧(∀c ∈ l.calls,okC c=true)∧Up l.calls:=by
 unfold x5;rw[Bool.and_eq_true,Bool.and_eq_true,Bool.or_eq_true,decide_eq_true_eq,decide_eq_true_eq,decide_eq_true_eq,qgx];simp
end Go.Kc
end
section
/- What fold.Step makes of a list that may be: it may be again. No condition. -/
namespace Go.Kc
theorem qds{α:Type} [DecidableEq α]:∀{l t:List α},l.Nodup->(∀x ∈ l,x ∈ t)->l.length<=t.length
 | [],_,_,_=>Nat.zero_le _
 | x::l,t,hn,hs=>by
  have hn':=List.nodup_cons.1 hn;have hx:=hs x List.mem_cons_self;have h1:=qds (t:=t.erase x) hn'.2 (fun y hy=>(List.mem_erase_of_ne (fun (e:y=x)=>hn'.1 (by rw[← e];exact hy))).2 (hs y (List.mem_cons_of_mem _ hy)))
  have h2:=List.length_erase_of_mem hx;have h3:0<t.length:=List.length_pos_of_mem hx;simp only[List.length_cons];omega
theorem qgb{s:List UInt8}(h:jd s=true):s ∈ qY.map (·.1):=by
 unfold jd at h;obtain⟨x,hx⟩:=Option.isSome_iff_exists.1 h;have h1:=List.mem_of_find?_eq_some hx;have h2:=List.find?_some hx;exact List.mem_map.2 ⟨x,h1,of_decide_eq_true h2⟩
theorem qhx{l:GList}(h:x5 l=true):l.calls.length<=40:=by
 obtain⟨_,h1,h2⟩:=(qiy l).1 h
 have:=qds (l:=l.calls.map (·.name)) (t:=qY.map (·.1)) (List.pairwise_map.2 (List.Pairwise.imp (R:=fun a b:GCall=>ltS a.name b.name=true) (fun hab=>qsj hab) h2)) (by
  intro x hx;obtain⟨c,hc,rfl⟩:=List.mem_map.1 hx;have:=h1 c hc;simp only[okC,Bool.and_eq_true] at this;exact qgb this.1)
 have e:(qY.map (·.1)).length=40:=by rw[List.length_map];rfl
 rw[List.length_map] at this;omega
end Go.Kc
end
section
/- The table of groups; what groups.Expand answers of a name that is none of them. Condition: the functions' texts are these. -/
namespace Go.Kc
variable {P:Program} {f:Nat}
def qts:List (List UInt8×List (List UInt8)):=[([64,98,97,115,105,99,45,105,111],[[114,101,97,100],[119,114,105,116,101],[99,108,111,115,101]]),([64,99,108,111,99,107],[[99,108,111,99,107,95,115,101,116,116,105,109,101],[115,101,116,116,105,109,101,111,102,100,97,121]]),([64,100,101,98,117,103],[[112,116,114,97,99,101],[112,101,114,115,111,110,97,108,105,116,121]]),([64,102,105,108,101],[[64,98,97,115,105,99,45,105,111],[111,112,101,110],[111,112,101,110,97,116],[105,111,99,116,108]]),([64,109,101,109,111,114,121],[[98,114,107],[109,109,97,112],[109,112,114,111,116,101,99,116],[109,117,110,109,97,112],[112,107,101,121,95,109,112,114,111,116,101,99,116],[115,104,109,97,116]]),([64,109,111,100,117,108,101],[[100,101,108,101,116,101,95,109,111,100,117,108,101],[102,105,110,105,116,95,109,111,100,117,108,101],[105,110,105,116,95,109,111,100,117,108,101]]),([64,109,111,117,110,116],[[109,111,117,110,116],[117,109,111,117,110,116,50]]),([64,110,101,115,116],[[64,110,101,115,116,45,50],[107,105,108,108]]),([64,110,101,115,116,45,50],[[64,110,101,115,116,45,51],[103,101,116,117,105,100]]),([64,110,101,115,116,45,51],[[64,110,101,115,116,45,52],[115,101,116,117,105,100]]),([64,110,101,115,116,45,52],[[64,110,101,115,116,45,53],[101,120,105,116]]),([64,110,101,115,116,45,53],[[114,101,97,100]]),([64,110,101,116,119,111,114,107],[[98,105,110,100],[99,111,110,110,101,99,116],[108,105,115,116,101,110],[115,111,99,107,101,116]]),([64,112,114,105,118,105,108,101,103,101,100],[[64,99,108,111,99,107],[64,109,111,100,117,108,101],[64,109,111,117,110,116],[64,114,101,98,111,111,116],[98,112,102],[115,101,116,117,105,100]]),([64,112,114,111,99,101,115,115],[[99,108,111,110,101],[99,108,111,110,101,51],[101,120,101,99,118,101],[101,120,105,116],[102,111,114,107],[107,105,108,108],[115,101,116,110,115],[117,110,115,104,97,114,101]]),([64,114,101,98,111,111,116],[[114,101,98,111,111,116]]),([64,114,101,115,111,117,114,99,101,115],[[115,99,104,101,100,95,115,101,116,97,116,116,114],[115,99,104,101,100,95,115,101,116,115,99,104,101,100,117,108,101,114]]),([64,115,121,115,116,101,109],[[64,102,105,108,101],[64,109,101,109,111,114,121],[64,110,101,116,119,111,114,107],[64,112,114,111,99,101,115,115],[103,101,116,117,105,100]])]
def qvZ:List (List UInt8×List (List UInt8)×Int):=[([64,98,97,115,105,99,45,105,111],[[99,108,111,115,101],[114,101,97,100],[119,114,105,116,101]],0),([64,99,108,111,99,107],[[99,108,111,99,107,95,115,101,116,116,105,109,101],[115,101,116,116,105,109,101,111,102,100,97,121]],0),([64,100,101,98,117,103],[[112,101,114,115,111,110,97,108,105,116,121],[112,116,114,97,99,101]],0),([64,102,105,108,101],[[99,108,111,115,101],[105,111,99,116,108],[111,112,101,110],[111,112,101,110,97,116],[114,101,97,100],[119,114,105,116,101]],0),([64,109,101,109,111,114,121],[[98,114,107],[109,109,97,112],[109,112,114,111,116,101,99,116],[109,117,110,109,97,112],[112,107,101,121,95,109,112,114,111,116,101,99,116],[115,104,109,97,116]],0),([64,109,111,100,117,108,101],[[100,101,108,101,116,101,95,109,111,100,117,108,101],[102,105,110,105,116,95,109,111,100,117,108,101],[105,110,105,116,95,109,111,100,117,108,101]],0),([64,109,111,117,110,116],[[109,111,117,110,116],[117,109,111,117,110,116,50]],0),([64,110,101,115,116],[],111),([64,110,101,115,116,45,50],[[101,120,105,116],[103,101,116,117,105,100],[114,101,97,100],[115,101,116,117,105,100]],0),([64,110,101,115,116,45,51],[[101,120,105,116],[114,101,97,100],[115,101,116,117,105,100]],0),([64,110,101,115,116,45,52],[[101,120,105,116],[114,101,97,100]],0),([64,110,101,115,116,45,53],[[114,101,97,100]],0),([64,110,101,116,119,111,114,107],[[98,105,110,100],[99,111,110,110,101,99,116],[108,105,115,116,101,110],[115,111,99,107,101,116]],0),([64,112,114,105,118,105,108,101,103,101,100],[[98,112,102],[99,108,111,99,107,95,115,101,116,116,105,109,101],[100,101,108,101,116,101,95,109,111,100,117,108,101],[102,105,110,105,116,95,109,111,100,117,108,101],[105,110,105,116,95,109,111,100,117,108,101],[109,111,117,110,116],[114,101,98,111,111,116],[115,101,116,116,105,109,101,111,102,100,97,121],[115,101,116,117,105,100],[117,109,111,117,110,116,50]],0),([64,112,114,111,99,101,115,115],[[99,108,111,110,101],[99,108,111,110,101,51],[101,120,101,99,118,101],[101,120,105,116],[102,111,114,107],[107,105,108,108],[115,101,116,110,115],[117,110,115,104,97,114,101]],0),([64,114,101,98,111,111,116],[[114,101,98,111,111,116]],0),([64,114,101,115,111,117,114,99,101,115],[[115,99,104,101,100,95,115,101,116,97,116,116,114],[115,99,104,101,100,95,115,101,116,115,99,104,101,100,117,108,101,114]],0),([64,115,121,115,116,101,109],[[98,105,110,100],[98,114,107],[99,108,111,110,101],[99,108,111,110,101,51],[99,108,111,115,101],[99,111,110,110,101,99,116],[101,120,101,99,118,101],[101,120,105,116],[102,111,114,107],[103,101,116,117,105,100],[105,111,99,116,108],[107,105,108,108],[108,105,115,116,101,110],[109,109,97,112],[109,112,114,111,116,101,99,116],[109,117,110,109,97,112],[111,112,101,110],[111,112,101,110,97,116],[112,107,101,121,95,109,112,114,111,116,101,99,116],[114,101,97,100],[115,101,116,110,115],[115,104,109,97,116],[115,111,99,107,101,116],[117,110,115,104,97,114,101],[119,114,105,116,101]],0)]
def qwY(g:List UInt8×List (List UInt8)):List AV:=[.s g.1,.fz g.2.length (rS g.2)]
end Go.Kc
end
section
/- A list's value as a row of puts and takes; twice is as once. No condition. -/
namespace Go.Kc
variable (E:List UInt8->List (List UInt8)×Int)
variable {E}
end Go.Kc
end
section
/- What fold.Step answers. Condition: the functions' texts are these. -/
namespace Go.Kc
variable {P:Program} {f:Nat}
end Go.Kc
end
section
/- What fold.Step answers, whole. Condition: the functions' texts are these. -/
namespace Go.Kc
variable {P:Program} {f:Nat}
end Go.Kc
end
section
/- FoldKeeps, FoldTwice: what the laws answer. Condition: the functions' texts are these. -/
namespace Go.Kc
variable {P:Program} {f:Nat}
end Go.Kc
end
section
/- FoldOne: what the law answers. Condition: the functions' texts are these. -/
namespace Go.Kc
variable {P:Program} {f:Nat}
end Go.Kc
end
section
/- What values come to, as the kernel can count it. No condition. -/
namespace Go.Kc
variable (E:List UInt8->List (List UInt8)×Int)
end Go.Kc
end
section
/- What filter.Set answers: its functions. Condition: the functions' texts are these. -/
namespace Go.Kc
variable {P:Program} {f:Nat}
def qgn(a:Asg)(n:GNote):GNote:=⟨a.file,a.line,n.err,n.text⟩
def qkx:IFn:=⟨[.tmp 2],.seq (.r [.m 2 (.c (.nilp))]) (.seq (.r [.n 3 0,.q 4 (.nilChk (.t 3)),.f 5 1 4,.n 2 5]) (.ret))⟩
def qky:IFn:=⟨[.tmp 2],.seq (.r [.m 2 (.c (.nilp))]) (.seq (.r [.n 3 0,.q 4 (.nilChk (.t 3)),.f 5 4 4,.n 2 5]) (.ret))⟩
end Go.Kc
end
section
/- What the keys of filter do to a policy. Condition: the functions' texts are these. -/
namespace Go.Kc
variable {P:Program} {f:Nat}
def qkA(a:Nat):IFn:=⟨[.tmp 6],.seq (.r [.m 6 .N]) (.seq (.r [.d 10 2,.n 11 0,⟨(some 12),.callV (.t 10) [.t 11],none⟩,.n 7 12]) (.seq (.reg true [.n 14 7,.q 15 (.nilChk (.t 14)),.v 16 2 15,.n 17 1,.d 18 3,.l 19 a [.t 16,.t 17,.t 18],.n 13 19,.x 20 13 0,.x 21 13 1,.q 8 (.alloc [.i .u8 0,.nils]),.u (.store 2 (.t 8) (.t 20)),.n 9 21]) (.seq (.r [.n 22 7,.v 23 2 8,.q 24 (.nilChk (.t 22)),.u (.store 2 (.t 24) (.t 23))]) (.seq (.r [.n 25 9,.n 6 25]) (.ret)))))⟩
def qkz(a:Nat):IFn:=⟨[.tmp 4],.seq (.r [.m 4 .N]) (.seq (.r [.n 8 1,.l 9 a [.t 8],.n 7 9,.x 10 7 0,.x 11 7 1,.n 5 10,.n 6 11]) (.seq (.seq (.r [.n 12 6,.w 13 .neq 12 0]) (.cond (.t 13) (.seq (.r [.n 14 6,.n 15 1,.n 16 1,.q 17 (.len true (.t 16)),.q 18 (.min (.t 17) (.k 60)),.q 19 (.slcStr (.t 15) none (some (.t 18))),.q 20 (.build [.s [],.i .i64 0,.i .i64 0,.s []] [(2,1,(.t 14)),(3,1,(.t 19))]),.q 21 (.buildS 1 [.s [],.i .i64 0,.i .i64 0,.s []] [(0,4,(.t 20))]),.n 4 21]) (.ret)) (.skip))) (.seq (.r [.n 22 0,.n 23 5,.q 24 (.nilChk (.t 22)),.f 25 3 24,.u (.store 1 (.t 25) (.t 23))]) (.seq (.r [.m 4 .N]) (.ret)))))⟩
end Go.Kc
end
section
/- What filter.Set answers. Condition: the functions' texts are these. -/
namespace Go.Kc
variable {P:Program} {f:Nat}
def qeQ(a b:Nat):ICode:=.seq (.seq (.r [.n 26 8,.e 27 26,.m 28 (.k 0)]) (.blk 0 (.loop (.seq (.r [.s 29 28 27]) (.seq (.cond (.t 29) (.skip) (.exit 0)) (.seq (.blk 1 (.seq (.r [.n 30 28,.n 9 30]) (.reg true [.n 31 8,.n 32 9,.n 33 8,.n 34 9,.f 35 0 3,.d 36 35,.f 37 1 3,.d 38 37,.i 39 4 31 32,.f 40 0 39,.u (.storeD 1 (.t 40) (.t 36) [37]),.i 41 4 33 34,.f 42 1 41,.u (.store 1 (.t 42) (.t 38))]))) (.r [.a 43 28 1,.n 28 43]))))))) (.seq (.r [.v 44 13 2,.n 45 8,.u (.store 13 (.t 4) (.t 44)),.n 5 45]) (.ret))
def qeP(a b:Nat):ICode:=.seq (.r [.n 22 6,.f 23 4 3,.d 24 23,⟨(some 25),.callV (.t 22) [.t 2,.t 24],none⟩,.n 8 25]) (.cut (qeQ a b))
def qoa(a b:Nat):IFn:=⟨[.cell 4 13 true,.tmp 5],.seq (.r [.q 2 (.box (.t 0)),.q 3 (.box (.t 1)),.q 4 (.alloc [.nils,.i .u8 0,.nils,.i .u32 0,.i .u8 0,.nils,.nils,.i .u8 0,.i .u64 0,.b false,.b false,.b false,.b false]),.m 5 .N]) (.seq (.r [.v 10 13 2,.l 11 a [.t 10],.u (.store 13 (.t 2) (.t 11))]) (.seq (.reg true [.l 13 b [],.f 14 3 3,.d 15 14,.q 16 (.lookM none true (.nilf) (.t 13) (.t 15)),.n 12 16,.x 17 12 0,.x 18 12 1,.n 6 17,.n 7 18]) (.seq (.seq (.r [.n 19 7,.q 20 (.un .not (.t 19))]) (.cond (.t 20) (.seq (.r [.v 21 13 2,.u (.store 13 (.t 4) (.t 21)),.m 5 .N]) (.ret)) (.skip))) (.cut (qeP a b)))))⟩
end Go.Kc
end
section
/- FilterOwn: what the law answers. Condition: the functions' texts are these. -/
namespace Go.Kc
variable {P:Program} {f:Nat}
end Go.Kc
end
section
/- What fold.Put and fold.Take answer, in rows of one's own. Condition: the functions' texts are these. -/
namespace Go.Kc
variable {P:Program} {f:Nat}
end Go.Kc
end
section
/- What the document's reading of values answers. Condition: the functions' texts are these. -/
namespace Go.Kc
variable {P:Program} {f:Nat}
end Go.Kc
end
section
/- What the document says of lists. Condition: the functions' texts are these. -/
namespace Go.Kc
variable {P:Program} {f:Nat}
def qcN:List (List UInt8×List Int):=[([98,105,110,100],[49,361,1073741873,282,200,200]),([98,112,102],[321,357,1073742145,386,280,280]),([98,114,107],[12,45,1073741836,45,214,214]),([99,108,111,99,107,95,115,101,116,116,105,109,101],[227,264,1073742051,262,112,112]),([99,108,111,110,101],[56,120,1073741880,120,220,220]),([99,108,111,110,101,51],[435,435,-1,435,435,435]),([99,108,111,115,101],[3,6,1073741827,6,57,57]),([99,111,110,110,101,99,116],[42,362,1073741866,283,203,203]),([100,101,108,101,116,101,95,109,111,100,117,108,101],[176,129,1073742000,129,106,106]),([101,120,101,99,118,101],[59,11,1073742344,11,221,221]),([101,120,105,116],[60,1,1073741884,1,93,93]),([102,105,110,105,116,95,109,111,100,117,108,101],[313,350,1073742137,379,273,273]),([102,111,114,107],[57,2,1073741881,2,-1,-1]),([103,101,116,117,105,100],[102,24,1073741926,24,174,174]),([105,110,105,116,95,109,111,100,117,108,101],[175,128,-1,128,105,105]),([105,111,99,116,108],[16,54,1073742338,54,29,29]),([107,105,108,108],[62,37,1073741886,37,129,129]),([108,105,115,116,101,110],[50,363,1073741874,284,201,201]),([109,109,97,112],[9,90,1073741833,-1,222,222]),([109,111,117,110,116],[165,21,1073741989,21,40,40]),([109,112,114,111,116,101,99,116],[10,125,1073741834,125,226,226]),([109,117,110,109,97,112],[11,91,1073741835,91,215,215]),([111,112,101,110],[2,5,1073741826,5,-1,-1]),([111,112,101,110,97,116],[257,295,1073742081,322,56,56]),([112,101,114,115,111,110,97,108,105,116,121],[135,136,1073741959,136,92,92]),([112,107,101,121,95,109,112,114,111,116,101,99,116],[329,380,1073742153,394,288,-1]),([112,116,114,97,99,101],[101,26,1073742345,26,117,117]),([114,101,97,100],[0,3,1073741824,3,63,63]),([114,101,98,111,111,116],[169,88,1073741993,88,142,142]),([115,99,104,101,100,95,115,101,116,97,116,116,114],[314,351,1073742138,380,274,274]),([115,99,104,101,100,95,115,101,116,115,99,104,101,100,117,108,101,114],[144,156,1073741968,156,119,119]),([115,101,99,99,111,109,112],[317,354,1073742141,383,277,277]),([115,101,116,110,115],[308,346,1073742132,375,268,268]),([115,101,116,116,105,109,101,111,102,100,97,121],[164,79,1073741988,79,170,170]),([115,101,116,117,105,100],[105,23,1073741929,23,146,146]),([115,104,109,97,116],[30,397,-1,305,196,196]),([115,111,99,107,101,116],[41,359,1073741865,281,198,198]),([117,109,111,117,110,116,50],[166,52,1073741990,52,39,39]),([117,110,115,104,97,114,101],[272,310,1073742096,337,97,97]),([119,114,105,116,101],[1,4,1073741825,4,64,64])]
def qlb(x:List UInt8×List Int):List AV:=[.s x.1,.fz 6 (rI .i64 x.2)]
theorem qiB(x:List UInt8×List Int):(qlb x).length=2:=rfl
theorem qjo:qcN.map (·.1)=qY.map (·.1):=rfl
def quA(P:Program)(f:Nat):Prop:=qe P f [] (.fz 40 (qcN.flatMap qlb))
theorem qga(s:List UInt8):jd s=true↔s ∈ qcN.map (·.1):=by
 rw[qjo];constructor
 ·exact qgb
 ·intro h;obtain⟨x,hx,rfl⟩:=List.mem_map.1 h;unfold jd;rw[List.find?_isSome];exact⟨x,hx,by simp⟩
def wi(a:Nat):IFn:=⟨[.tmp 2],.seq (.r [.m 2 .F]) (.seq (.r [.l 5 a [],.n 3 5]) (.seq (.seq (.r [.m 4 (.k 0)]) (.blk 0 (.loop (.seq (.seq (.r [.n 6 4,.n 7 3,.e 8 7,.s 9 6 8]) (.cond (.t 9) (.skip) (.exit 0))) (.seq (.blk 1 (.seq (.r [.n 12 3,.n 13 4,.i 14 2 12 13,.f 15 0 14,.d 16 15,.n 17 0,.b 18 .eql 16 17]) (.cond (.t 18) (.seq (.r [.m 2 .T]) (.ret)) (.skip)))) (.r [.n 10 4,.a 11 10 1,.n 4 11])))))) (.seq (.r [.m 2 .F]) (.ret))))⟩
theorem qwf{g1:Nat}(hc:qt P f (wi g1)=true)(h1:quA P g1)(s:List UInt8):qe P f [.s s] (.b (jd s)):=by
 refine qe.mk hc rfl ?_;simp only[wi,vI,simprocAttr];simp only[↓vS,vT,simprocAttr];refine h1.sc ?_;have h40:qcN.length=40:=by decide
 have hlen:(qcN.flatMap qlb).length=80:=by rw[jq qiB,h40]
 have hcl:qG (qcN.flatMap qlb)=true:=qeJ fun _=>rfl
 have hget:∀j r,qcN[j]?=some r->(qcN.flatMap qlb)[j*2]?=some (.s r.1):=fun j r h=>qb5 (m:=2) qiB h (i:=0) (by decide)
 generalize hT:qcN.flatMap qlb=T at hlen hcl hget;simp only[↓vS,vT,simprocAttr];refine SL.loop (α:=Nat) (fun j=>[(0,.s s),(3,.fz 40 T),(4,.i .i64 j)]) (fun _=>[]) (fun j=>j<=40∧∀r ∈ qcN.take j,r.1≠s) (fun j=>40-j) 0 [] ?_ ?_ ?_ rfl ?_ ?_
 ·simp[vw,hcl]
 ·trivial
 ·simp
 ·exact⟨Nat.zero_le _,fun r hr=>by cases hr⟩
 rintro j ⟨hj,hI⟩ G ih;simp only[vI,simprocAttr]
 by_cases hlt:j<40
 ·have hx:qcN[j]?=some (qcN[j]'(by omega)):=List.getElem?_eq_getElem (by omega);have hw:IntKind.wrap .i64 ((j:Int)+1)=((j+1:Nat):Int):=by rw[qF (by omega) (by omega)];omega
  have hlt':(j:Int)<40:=by omega
  have ht:qcN.take (j+1)=qcN.take j++[qcN[j]'(by omega)]:=by rw[List.take_add_one,hx];rfl
  have hmem:(qcN[j]'(by omega)) ∈ qcN:=List.getElem_mem _;have g0:=hget j _ hx;generalize (qcN[j]'(by omega))=r at hx ht hmem g0
  by_cases he:r.1=s
  ·have hk:jd s=true:=(qga s).2 (List.mem_map.2 ⟨r,hmem,he⟩);simp only[↓vS,vT,simprocAttr,hlt,hlt',g0,he];simp[vZ,hk]
  ·simp only[↓vS,vT,simprocAttr,hlt,hlt',g0,he,hw];refine ih (j+1) ⟨by omega,?_⟩ (by omega) _ _ (Wk.mk _ _ [] ?_ ?_ ?_ rfl)
   ·intro q hq;rw[ht] at hq;rcases List.mem_append.1 hq with h|h
    ·exact hI q h
    ·rw[List.mem_singleton.1 h];exact he
   ·simp[vw,hcl]
   ·trivial
   ·simp
 ·have hlt':¬(j:Int)<40:=by omega
  have hk:jd s=false:=by
   rw[Bool.eq_false_iff];intro h;obtain⟨r,hr,he⟩:=List.mem_map.1 ((qga s).1 h);exact hI r (by rw[List.take_of_length_le (by omega)];exact hr) he
  simp only[↓vS,vT,simprocAttr,hlt'];simp[vZ,hk]
def Rng(l:List GCall):Prop:=∀c ∈ l,0<=c.act∧c.act<=4294967295
def qhV(P:Program)(f:Nat):Prop:=∀l:GList,l.calls.length<=100000->Rng l.calls->qe P f [.agg (qu l)] (.b (x5 l))
theorem qd9{a:Int}(h:0<=a):a=65536*a.tdiv 65536+a.tmod 65536∧0<=a.tmod 65536∧a.tmod 65536<65536:=by
 rw[Int.tdiv_eq_ediv_of_nonneg h,Int.tmod_eq_emod_of_nonneg h];omega
theorem qcf{a:Int}(h0:0<=a)(h1:a<=4294967295):0<=a.tdiv 65536∧a.tdiv 65536<4294967296:=by
 have:=qd9 h0;omega
theorem qa2{a:Int}(h0:0<=a)(h1:a<=4294967295):qdw a=(decide (a=0)||decide (a=2147483648)||(decide (a.tdiv 65536=5)&&decide (a.tmod 65536<=4095))):=by
 have:=qd9 h0;unfold qdw;rw[Bool.eq_iff_iff];simp only[Bool.or_eq_true,Bool.and_eq_true,decide_eq_true_eq];omega
def xw(a:Nat):ICode:=.seq (.seq (.r [.m 3 (.k 0)]) (.blk 0 (.loop (.seq (.seq (.r [.n 19 3,.f 20 1 1,.d 21 20,.e 22 21,.s 23 19 22]) (.cond (.t 23) (.skip) (.exit 0))) (.seq (.blk 1 (.seq (.r [.f 26 1 1,.d 27 26,.n 28 3,.i 29 2 27 28,.f 30 1 29,.d 31 30,.n 4 31]) (.seq (.seq (.reg true [.f 32 1 1,.d 33 32,.n 34 3,.i 35 2 33 34,.f 36 0 35,.d 37 36,.l 38 a [.t 37],.q 39 (.un .not (.t 38)),.n 40 39,.z 41 3 40,.g 42 (.bin .gtr (.t 41) (.k 0)) 40 false,.z 43 42 40,.h 44 1 1 43 true,.j 45 44 43 true,.y 46 3 43,.g 47 (.bin .sub (.t 46) (.k 1)) 43 true,.g 48 (.iAddrS 2 (.t 45) (.t 47)) 43 true,.h 49 0 48 43 true,.j 50 49 43 true,.h 51 1 1 43 true,.j 52 51 43 true,.y 53 3 43,.g 54 (.iAddrS 2 (.t 52) (.t 53)) 43 true,.h 55 0 54 43 true,.j 56 55 43 true,.g 57 (.bin .geq (.t 50) (.t 56)) 43 true,.g 58 (.pick (.t 43) (.t 57) .F) 40 false,.o 59 40 58]) (.cond (.t 59) (.seq (.r [.m 2 .F]) (.ret)) (.skip))) (.seq (.r [.n 60 4,.q 61 (.bin .neq (.t 60) (.c (.i .u32 0))),.n 62 61,.y 63 4 62,.g 64 (.bin .neq (.t 63) (.c (.i .u32 2147483648))) 62 true,.p 65 62 64,.n 66 65,.y 67 4 66,.g 68 (.bin .quo (.t 67) (.c (.i .u32 65536))) 66 true,.g 69 (.bin .neq (.t 68) (.c (.i .u32 5))) 66 true,.y 70 69 66,.z 71 4 70,.g 72 (.bin .rem (.t 71) (.c (.i .u32 65536))) 70 false,.g 73 (.bin .gtr (.t 72) (.c (.i .u32 4095))) 70 false,.g 74 (.pick (.t 70) .T (.t 73)) 66 true,.p 75 66 74]) (.cond (.t 75) (.seq (.r [.m 2 .F]) (.ret)) (.skip)))))) (.r [.n 24 3,.a 25 24 1,.n 3 25])))))) (.seq (.r [.m 2 .T]) (.ret))
def qas(a:Nat):IFn:=⟨[.tmp 2],.seq (.r [.q 1 (.box (.t 0)),.m 2 .F]) (.seq (.seq (.r [.f 5 0 1,.d 6 5,.q 7 (.bin .gtr (.t 6) (.c (.i .u8 2))),.n 8 7,.h 9 0 1 8 false,.j 10 9 8 false,.g 11 (.bin .eql (.t 10) (.c (.i .u8 0))) 8 false,.z 12 11 8,.h 13 1 1 12 true,.j 14 13 12 true,.g 15 (.len false (.t 14)) 12 true,.g 16 (.bin .gtr (.t 15) (.k 0)) 12 true,.g 17 (.pick (.t 12) (.t 16) .F) 8 false,.o 18 8 17]) (.cond (.t 18) (.seq (.r [.m 2 .F]) (.ret)) (.skip))) (.cut (xw a)))⟩
set_option maxRecDepth 8000 in
theorem qiw{g1:Nat}(h1:∀s,qe P g1 [.s s] (.b (jd s)))(l:GList)(hl:l.calls.length<=100000)(hR:Rng l.calls){t':Tr AV}{h':Hp}(hw:Wk 0 t' h' (mkT [(1,.ptr 0 0),(2,.b false)]) (mkH 0 [.cells 0 true false (qu l)])) :
  S P 0 (xw g1) (jD [.tmp 2] fun v' h'=>Frz h' v' (.b (zT none l.calls))) t' h':=by
 refine S.weak hw (qr ?_);simp only[xw,qu,vI,simprocAttr];simp only[↓vS,vT,simprocAttr]
 refine SL.loop (α:=Nat) (fun j=>[(1,.ptr 0 0),(2,.b false),(3,.i .i64 j)]) (fun _=>[.cells 0 true false (qu l)])
  (fun j=>j<=l.calls.length∧zT none l.calls=zT (if j=0 then none else l.calls[j-1]?) (l.calls.drop j)) (fun j=>l.calls.length-j) 0 [0] ?_ ?_ ?_ rfl ?_ ?_
 ·simp[vw,qc]
 ·simp[vw,qu]
 ·simp
 ·exact⟨Nat.zero_le _,rfl⟩
 rintro j ⟨hj,hI⟩ G ih;simp only[vI,simprocAttr,qu]
 by_cases hlt:j<l.calls.length
 ·have hx:l.calls[j]?=some l.calls[j]:=List.getElem?_eq_getElem hlt;have g0:(rC l.calls)[j*2]?=some (.s l.calls[j].name):=qgq hx (i:=0) (by decide);have g1:(rC l.calls)[j*2+1]?=some (.i .u32 l.calls[j].act):=qgq hx (i:=1) (by decide);have hw:IntKind.wrap .i64 ((j:Int)+1)=((j+1:Nat):Int):=by rw[qF (by omega) (by omega)];omega
  rw[List.drop_eq_getElem_cons hlt,zT] at hI;obtain⟨r0,r1⟩:=hR l.calls[j] (List.getElem_mem hlt);generalize hc0:l.calls[j]=c at hI hx g0 g1 r0 r1;simp only[↓vS,vT,simprocAttr,hlt,g1];refine xb ?_;simp only[↓vS,vT,simprocAttr,hlt,g0];refine (h1 c.name).pc ?_;cases hk:jd c.name with
  | false =>
   have hw:zT none l.calls=false:=by rw[hI];simp[okC,hk]
   simp only[↓vS,vT,simprocAttr];simp[vZ,hw]
  | true =>
   by_cases h0:j=0
   ·subst h0;have hn:¬(0:Int)<((0:Nat):Int):=by decide
    have hw:IntKind.wrap .i64 (((0:Nat):Int)+1)=((1:Nat):Int):=by decide
    have hw':IntKind.wrap .i64 (0+1)=((1:Nat):Int):=by decide
    have h65:(65536:Int)≠0:=by decide
    by_cases e0:c.act=0
    ·have hok:okC c=true:=by simp[okC,hk,qdw,e0]
     simp only[↓vS,vT,simprocAttr,hn,e0,hw];refine ih 1 ⟨by omega,?_⟩ (by omega) _ _ (Wk.mk _ _ [0] ?_ ?_ ?_ rfl)
     ·rw[hI,hok];simp[hx]
     ·simp[vw,qc];exact qF (by decide) (by decide)
     ·simp[vw,qu]
     ·simp
    by_cases e1:c.act=2147483648
    ·have hok:okC c=true:=by simp[okC,hk,qdw,e1]
     simp only[↓vS,vT,simprocAttr,hn,e0,e1,hw];refine ih 1 ⟨by omega,?_⟩ (by omega) _ _ (Wk.mk _ _ [0] ?_ ?_ ?_ rfl)
     ·rw[hI,hok];simp[hx]
     ·simp[vw,qc];exact qF (by decide) (by decide)
     ·simp[vw,qu]
     ·simp
    by_cases e2:c.act.tdiv 65536=5
    ·have hwq:IntKind.wrap .u32 (c.act.tdiv 65536)=5:=by rw[e2];decide
     by_cases e3:4095<c.act.tmod 65536
     ·have e3':¬c.act.tmod 65536<=4095:=by omega
      have hwf:zT none l.calls=false:=by rw[hI];simp[okC,qa2 r0 r1,e0,e1,e2,e3']
      simp only[↓vS,vT,simprocAttr,hn,e0,e1,↓jf h65,↓jS h65,hwq,e3];simp[vZ,hwf]
     ·have hok:okC c=true:=by simp[okC,hk,qa2 r0 r1,e0,e1,e2,e3];omega
      simp only[↓vS,vT,simprocAttr,hn,e0,e1,↓jf h65,↓jS h65,hwq,e3,hw];refine ih 1 ⟨by omega,?_⟩ (by omega) _ _ (Wk.mk _ _ [0] ?_ ?_ ?_ rfl)
      ·rw[hI,hok];simp[hx]
      ·simp[vw,qc];exact qF (by decide) (by decide)
      ·simp[vw,qu]
      ·simp
    ·have hwq:¬IntKind.wrap .u32 (c.act.tdiv 65536)=5:=by rw[qbH (qcf r0 r1).1 (by have:=(qcf r0 r1).2;omega)];exact e2
     have hwf:zT none l.calls=false:=by rw[hI];simp[okC,qa2 r0 r1,e0,e1,e2]
     simp only[↓vS,vT,simprocAttr,hn,e0,e1,↓jf h65,hwq];simp[vZ,hwf]
   ·have hp:(0:Int)<(j:Int):=by omega
    have hpl:j-1<l.calls.length:=by omega
    have hy:l.calls[j-1]?=some l.calls[j-1]:=List.getElem?_eq_getElem hpl;have hw2:IntKind.wrap .i64 ((j:Int)-1)=((j-1:Nat):Int):=by rw[qF (by omega) (by omega)];omega
    have g2:(rC l.calls)[(j-1)*2]?=some (.s l.calls[j-1].name):=qgq hy (i:=0) (by decide);rw[if_neg h0,hy] at hI;cases hlt2:ltS l.calls[j-1].name c.name with
    | false =>
     have hwf:zT none l.calls=false:=by rw[hI];simp[hlt2]
     simp only[↓vS,vT,simprocAttr,hp,hw2,hpl,hlt,g0,g2,hlt2];simp[vZ,hwf]
    | true =>
     have h65:(65536:Int)≠0:=by decide
     by_cases e0:c.act=0
     ·have hok:okC c=true:=by simp[okC,hk,qdw,e0]
      simp only[↓vS,vT,simprocAttr,hp,hw2,hpl,hlt,g0,g2,hlt2,e0,hw];refine ih (j+1) ⟨by omega,?_⟩ (by omega) _ _ (Wk.mk _ _ [0] ?_ ?_ ?_ rfl)
      ·rw[hI,hok];simp[hlt2,hx]
      ·simp[vw,qc]
      ·simp[vw,qu]
      ·simp
     by_cases e1:c.act=2147483648
     ·have hok:okC c=true:=by simp[okC,hk,qdw,e1]
      simp only[↓vS,vT,simprocAttr,hp,hw2,hpl,hlt,g0,g2,hlt2,e0,e1,hw];refine ih (j+1) ⟨by omega,?_⟩ (by omega) _ _ (Wk.mk _ _ [0] ?_ ?_ ?_ rfl)
      ·rw[hI,hok];simp[hlt2,hx]
      ·simp[vw,qc]
      ·simp[vw,qu]
      ·simp
     by_cases e2:c.act.tdiv 65536=5
     ·have hwq:IntKind.wrap .u32 (c.act.tdiv 65536)=5:=by rw[e2];decide
      by_cases e3:4095<c.act.tmod 65536
      ·have e3':¬c.act.tmod 65536<=4095:=by omega
       have hwf:zT none l.calls=false:=by rw[hI];simp[okC,qa2 r0 r1,e0,e1,e2,e3']
       simp only[↓vS,vT,simprocAttr,hp,hw2,hpl,hlt,g0,g2,hlt2,e0,e1,↓jf h65,↓jS h65,hwq,e3];simp[vZ,hwf]
      ·have hok:okC c=true:=by simp[okC,hk,qa2 r0 r1,e0,e1,e2,e3];omega
       simp only[↓vS,vT,simprocAttr,hp,hw2,hpl,hlt,g0,g2,hlt2,e0,e1,↓jf h65,↓jS h65,hwq,e3,hw];refine ih (j+1) ⟨by omega,?_⟩ (by omega) _ _ (Wk.mk _ _ [0] ?_ ?_ ?_ rfl)
       ·rw[hI,hok];simp[hlt2,hx]
       ·simp[vw,qc]
       ·simp[vw,qu]
       ·simp
     ·have hwq:¬IntKind.wrap .u32 (c.act.tdiv 65536)=5:=by rw[qbH (qcf r0 r1).1 (by have:=(qcf r0 r1).2;omega)];exact e2
      have hwf:zT none l.calls=false:=by rw[hI];simp[okC,qa2 r0 r1,e0,e1,e2]
      simp only[↓vS,vT,simprocAttr,hp,hw2,hpl,hlt,g0,g2,hlt2,e0,e1,↓jf h65,hwq];simp[vZ,hwf]
 ·rw[List.drop_of_length_le (by omega),zT] at hI;simp only[↓vS,vT,simprocAttr,hlt];simp[vZ,hI]
theorem qwR{g1:Nat}(hc:qt P f (qas g1)=true)(h1:∀s,qe P g1 [.s s] (.b (jd s))):qhV P f:=by
 intro l hl hR;refine qe.mk hc rfl ?_;simp only[qas,qu,vI,simprocAttr]
 by_cases m1:2<l.mode
 ·have hw:x5 l=false:=by simp[x5];omega
  simp only[↓vS,vT,simprocAttr,m1];simp[vZ,hw]
 have tail:(l.mode≠0∨l.calls=[])->x5 l=zT none l.calls:=fun h=>by
  have:(decide (l.mode<=2)&&(decide (l.mode≠0)||decide (l.calls=[])))=true:=by
   simp only[Bool.and_eq_true,Bool.or_eq_true,decide_eq_true_eq];exact⟨by omega,h⟩
  unfold x5;rw[this];rfl
 by_cases m2:l.mode=0
 ·by_cases m3:(0:Int)<l.calls.length
  ·have hne:l.calls≠[]:=by intro h;rw[h] at m3;simp at m3
   have hw:x5 l=false:=by simp[x5,m2,hne]
   simp only[↓vS,vT,simprocAttr,m1,m2,m3];simp[vZ,hw]
  ·have hz:l.calls=[]:=List.eq_nil_of_length_eq_zero (by omega);rw[tail (.inr hz)];simp only[↓vS,vT,simprocAttr,m1,m2,m3];refine qiw h1 l hl hR (Wk.mk _ _ [0] ?_ ?_ ?_ rfl)
   ·simp[vw]
   ·simp[vw,qu,m2]
   ·simp
 ·rw[tail (.inl m2)];simp only[↓vS,vT,simprocAttr,m1,m2];refine qiw h1 l hl hR (Wk.mk _ _ [0] ?_ ?_ ?_ rfl)
  ·simp[vw]
  ·simp[vw,qu]
  ·simp
end Go.Kc
end
section
/- What the document makes of lists: Find, take, Take, Put, Same. Condition: the functions' texts are these. -/
namespace Go.Kc
variable {P:Program} {f:Nat}
def qad:IFn:=⟨[.tmp 4],.seq (.r [.q 2 (.box (.t 0)),.q 3 (.box (.t 1)),.m 4 .F]) (.seq (.seq (.r [.f 6 0 2,.d 7 6,.f 8 0 3,.d 9 8,.b 10 .neq 7 9,.n 11 10,.h 12 1 2 11 false,.j 13 12 11 false,.g 14 (.len false (.t 13)) 11 false,.h 15 1 3 11 false,.j 16 15 11 false,.g 17 (.len false (.t 16)) 11 false,.g 18 (.bin .neq (.t 14) (.t 17)) 11 false,.o 19 11 18]) (.cond (.t 19) (.seq (.r [.m 4 .F]) (.ret)) (.skip))) (.seq (.seq (.r [.m 5 (.k 0)]) (.blk 0 (.loop (.seq (.seq (.r [.n 20 5,.f 21 1 2,.d 22 21,.e 23 22,.s 24 20 23]) (.cond (.t 24) (.skip) (.exit 0))) (.seq (.blk 1 (.seq (.reg true [.f 27 1 2,.d 28 27,.n 29 5,.i 30 2 28 29,.v 31 2 30,.f 32 1 3,.d 33 32,.n 34 5,.i 35 2 33 34,.v 36 2 35,.q 37 (.eqA true [.s,.i] (.t 31) (.t 36))]) (.cond (.t 37) (.seq (.r [.m 4 .F]) (.ret)) (.skip)))) (.r [.n 25 5,.a 26 25 1,.n 5 26])))))) (.seq (.r [.m 4 .T]) (.ret))))⟩
end Go.Kc
end
section
/- What the document makes of a list by a value. Condition: the functions' texts are these. -/
namespace Go.Kc
variable {P:Program} {f:Nat}
end Go.Kc
end
section
/- What the document makes of a list by a value, whole; and by values. Condition: the functions' texts are these. -/
namespace Go.Kc
variable {P:Program} {f:Nat}
end Go.Kc
end
section
/- What the document makes of a list by a value, and by values. Condition: the functions' texts are these. -/
namespace Go.Kc
variable {P:Program} {f:Nat}
end Go.Kc
end
section
/- What the document's groups answer. Condition: the functions' texts are these. -/
namespace Go.Kc
variable {P:Program} {f:Nat}
end Go.Kc
end
section
/- FoldLists: what the law answers. Condition: the functions' texts are these. -/
namespace Go.Kc
variable {P:Program} {f:Nat}
def qau(e:Int):Bool:=decide (e=90)||decide (e=100)||decide (e=110)||decide (e=161)
def z8:IFn:=⟨[.tmp 4],.seq (.r [.m 4 (.k 0)]) (.seq (.seq (.r [.n 6 0,.e 7 6,.m 8 (.k 0)]) (.blk 0 (.loop (.seq (.r [.s 9 8 7]) (.seq (.cond (.t 9) (.skip) (.exit 0)) (.seq (.blk 1 (.seq (.r [.n 10 8,.n 5 10]) (.seq (.r [.n 11 1,.n 12 0,.n 13 5,.i 14 1 12 13,.d 15 14,.b 16 .eql 11 15]) (.cond (.t 16) (.seq (.r [.n 17 5,.n 4 17]) (.ret)) (.skip))))) (.r [.a 18 8 1,.n 8 18]))))))) (.seq (.r [.q 4 (.mov (.c (.i .i64 (-1))))]) (.ret)))⟩
def qhq(x:Int):List Int->Nat->Int
 | [],_=>-1
 | y::ys,j=>if x=y then (j:Int) else qhq x ys (j+1)
theorem qtT(hc:qt P f z8=true)(xs:List Int)(x:Int)(hl:xs.length<=qf):qe P f [.fz xs.length (rI .i64 xs),.i .i64 x] (.i .i64 (qhq x xs 0)):=by
 refine qe.mk hc (by simp[qG,clo,qd]) ?_;simp only[z8,vI,simprocAttr];simp only[↓vS,vT,simprocAttr];refine SL.loop (α:=Nat) (fun j=>[(0,.fz xs.length (rI .i64 xs)),(1,.i .i64 x),(7,.i .i64 xs.length),(8,.i .i64 j)]) (fun _=>[]) (fun j=>j<=xs.length∧qhq x xs 0=qhq x (xs.drop j) j) (fun j=>xs.length-j) 0 [] ?_ ?_ ?_ rfl ?_ ?_
 ·simp[vw,qd]
 ·trivial
 ·simp
 ·simp
 rintro j ⟨hj,hI⟩ G ih;simp only[vI,simprocAttr]
 by_cases hlt:j<xs.length
 ·have hx:xs[j]?=some xs[j]:=List.getElem?_eq_getElem hlt;have hw:IntKind.wrap .i64 ((j:Int)+1)=(j:Int)+1:=qF (by omega) (by have:=hl;simp only[qf] at this;omega)
  rw[List.drop_eq_getElem_cons hlt,qhq] at hI;simp only[↓vS,vT,simprocAttr,hlt,Nat.mul_one,zF,hx,Option.map_some,hw];split
  ·rename_i he;simp only[he,vZ,if_true] at hI ⊢;simp[hI]
  ·rename_i he;rw[if_neg he] at hI;refine ih (j+1) ⟨by omega,hI⟩ (by omega) _ _ (Wk.mk _ _ [] ?_ ?_ ?_ rfl)
   ·simp[vw,qd]
   ·trivial
   ·simp
 ·simp only[↓vS,vT,simprocAttr,hlt,vZ];rw[List.drop_eq_nil_of_le (by omega)] at hI;simp[hI,qhq]
def zR(a:Nat):IFn:=⟨[.tmp 4],.seq (.r [.m 4 .F]) (.seq (.r [.n 5 0,.n 6 1,.l 7 a [.t 5,.t 6],.w 8 .geq 7 0,.n 4 8]) (.ret))⟩
theorem qoO{g:Nat}(hc:qt P f (zR g)=true)(hg:∀(xs:List Int) (x:Int),xs.length<=qf->qe P g [.fz xs.length (rI .i64 xs),.i .i64 x] (.i .i64 (qhq x xs 0)))(x:Int):qe P f [.fz 4 (rI .i64 [90,110,100,161]),.i .i64 x] (.b (qau x)):=by
 refine qe.mk hc (by simp[qG,clo,qd]) ?_;simp only[zR,vI,simprocAttr];simp only[↓vS,vT,simprocAttr];refine (hg [90,110,100,161] x (by decide)).sc ?_
 have hw:decide (0<=qhq x [90,110,100,161] 0)=qau x:=by
  simp only[qhq,qau]
  by_cases h1:x=90
  ·simp[h1]
  by_cases h2:x=110
  ·simp[h2]
  by_cases h3:x=100
  ·simp[h3]
  by_cases h4:x=161
  ·simp[h4]
  ·simp[h1,h2,h3,h4]
 simp only[↓vS,vT,simprocAttr];simp[vZ,← hw]
def qdG(a:Nat):IFn:=⟨[.tmp 2],.seq (.r [.m 2 .F]) (.seq (.r [.q 3 (.buildS 4 [.i .i64 0] [(0,1,(.k 90)),(1,1,(.k 110)),(2,1,(.k 100)),(3,1,(.k 161))]),.n 4 0,.l 5 a [.t 3,.t 4],.n 2 5]) (.ret))⟩
theorem qtA{g:Nat}(hc:qt P f (qdG g)=true)(hg:∀x,qe P g [.fz 4 (rI .i64 [90,110,100,161]),.i .i64 x] (.b (qau x)))(x:Int):qe P f [.i .i64 x] (.b (qau x)):=by
 refine qe.mk hc rfl ?_;simp only[qdG,vI,simprocAttr];simp only[↓vS,vT,simprocAttr];refine (hg x).lend (vs':=[.fz 4 (rI .i64 [90,110,100,161]),.i .i64 x]) ?_ rfl ?_
 ·refine .cons _ _ _ _ (.cut 1 rfl (Nat.le_refl _) ?_) (.cons _ _ _ _ (.i _ _) .nil);simp[vw,rI]
 simp only[↓vS,vT,simprocAttr];simp[vZ]
def wk:IFn:=⟨[.tmp 2],.seq (.r [.m 2 .F]) (.seq (.r [.n 3 0,.w 4 .eql 3 90,.n 5 4,.z 6 0 5,.g 7 (.bin .eql (.t 6) (.k 100)) 5 false,.o 8 5 7,.n 9 8,.z 10 0 9,.g 11 (.bin .eql (.t 10) (.k 110)) 9 false,.o 12 9 11,.n 13 12,.z 14 0 13,.g 15 (.bin .eql (.t 14) (.k 161)) 13 false,.o 16 13 15,.n 2 16]) (.ret))⟩
theorem qv0(hc:qt P f wk=true)(x:Int):qe P f [.i .i64 x] (.b (qau x)):=by
 refine qe.mk hc rfl ?_;simp only[wk,vI,simprocAttr]
 by_cases h1:x=90
 ·simp only[↓vS,vT,simprocAttr,h1];simp[vZ,qau]
 by_cases h2:x=100
 ·simp only[↓vS,vT,simprocAttr,h1,h2];simp[vZ,qau]
 by_cases h3:x=110
 ·simp only[↓vS,vT,simprocAttr,h1,h2,h3];simp[vZ,qau]
 by_cases h4:x=161
 ·simp only[↓vS,vT,simprocAttr,h1,h2,h3,h4];simp[vZ,qau]
 ·simp only[↓vS,vT,simprocAttr,h1,h2,h3,h4];simp[vZ,qau,h1,h2,h3,h4]
end Go.Kc
end
section
/- What the document's functions of stage 17 answer. Condition: the functions' texts are these. -/
namespace Go.Kc
variable {P:Program} {f:Nat}
def qae(a:Nat):IFn:=⟨[.tmp 4],.seq (.r [.q 2 (.box (.t 0)),.q 3 (.box (.t 1)),.m 4 .F]) (.seq (.seq (.r [.f 7 0 2,.d 8 7,.e 9 8,.f 10 0 3,.d 11 10,.e 12 11,.b 13 .neq 9 12,.n 14 13,.h 15 6 2 14 false,.j 16 15 14 false,.g 17 (.len false (.t 16)) 14 false,.h 18 6 3 14 false,.j 19 18 14 false,.g 20 (.len false (.t 19)) 14 false,.g 21 (.bin .neq (.t 17) (.t 20)) 14 false,.o 22 14 21]) (.cond (.t 22) (.seq (.r [.m 4 .F]) (.ret)) (.skip))) (.seq (.seq (.r [.m 5 (.k 0)]) (.blk 0 (.loop (.seq (.seq (.r [.n 23 5,.f 24 0 2,.d 25 24,.e 26 25,.s 27 23 26]) (.cond (.t 27) (.skip) (.exit 0))) (.seq (.blk 1 (.seq (.reg true [.f 30 0 2,.d 31 30,.n 32 5,.i 33 1 31 32,.d 34 33,.f 35 0 3,.d 36 35,.n 37 5,.i 38 1 36 37,.d 39 38,.b 40 .neq 34 39]) (.cond (.t 40) (.seq (.r [.m 4 .F]) (.ret)) (.skip)))) (.r [.n 28 5,.a 29 28 1,.n 5 29])))))) (.seq (.seq (.r [.m 6 (.k 0)]) (.blk 2 (.loop (.seq (.seq (.r [.n 41 6,.f 42 6 2,.d 43 42,.e 44 43,.s 45 41 44]) (.cond (.t 45) (.skip) (.exit 2))) (.seq (.blk 3 (.seq (.reg true [.f 48 6 2,.d 49 48,.n 50 6,.i 51 1 49 50,.d 52 51,.f 53 6 3,.d 54 53,.n 55 6,.i 56 1 54 55,.d 57 56,.b 58 .neq 52 57]) (.cond (.t 58) (.seq (.r [.m 4 .F]) (.ret)) (.skip)))) (.r [.n 46 6,.a 47 46 1,.n 6 47])))))) (.seq (.r [.f 59 1 2,.v 60 2 59,.f 61 1 3,.v 62 2 61,.l 63 a [.t 60,.t 62],.n 64 63,.h 65 4 2 64 true,.g 66 (.loadN 2 (.t 65)) 64 true,.h 67 4 3 64 true,.g 68 (.loadN 2 (.t 67)) 64 true,⟨(some 69),.callF a [.t 66,.t 68],(some (64,true))⟩,.p 70 64 69,.n 71 70,.h 72 3 2 71 true,.j 73 72 71 true,.h 74 3 3 71 true,.j 75 74 71 true,.g 76 (.bin .eql (.t 73) (.t 75)) 71 true,.p 77 71 76,.n 78 77,.h 79 7 2 78 true,.j 80 79 78 true,.h 81 7 3 78 true,.j 82 81 78 true,.g 83 (.bin .eql (.t 80) (.t 82)) 78 true,.p 84 78 83,.n 85 84,.h 86 8 2 85 true,.j 87 86 85 true,.h 88 8 3 85 true,.j 89 88 85 true,.g 90 (.bin .eql (.t 87) (.t 89)) 85 true,.p 91 85 90,.n 92 91,.h 93 9 2 92 true,.j 94 93 92 true,.h 95 9 3 92 true,.j 96 95 92 true,.g 97 (.eqB false (.t 94) (.t 96)) 92 true,.p 98 92 97,.n 99 98,.h 100 10 2 99 true,.j 101 100 99 true,.h 102 10 3 99 true,.j 103 102 99 true,.g 104 (.eqB false (.t 101) (.t 103)) 99 true,.p 105 99 104,.n 106 105,.h 107 11 2 106 true,.j 108 107 106 true,.h 109 11 3 106 true,.j 110 109 106 true,.g 111 (.eqB false (.t 108) (.t 110)) 106 true,.p 112 106 111,.n 113 112,.h 114 12 2 113 true,.j 115 114 113 true,.h 116 12 3 113 true,.j 117 116 113 true,.g 118 (.eqB false (.t 115) (.t 117)) 113 true,.p 119 113 118,.n 4 119]) (.ret)))))⟩
end Go.Kc
end
section
/- What policy.May answers. Condition: the functions' texts are these. -/
namespace Go.Kc
variable {P:Program} {f:Nat}
def x7(a:Int):List UInt8:=if a<0∨6<=a then [] else (jR.getD a.toNat ([],0)).1
def qes(a:Nat):IFn:=⟨[.tmp 2],.seq (.r [.m 2 (.c (.s []))]) (.seq (.seq (.r [.n 3 0,.w 4 .lss 3 0,.n 5 4,.z 6 0 5,.g 7 (.bin .geq (.t 6) (.k 6)) 5 false,.o 8 5 7]) (.cond (.t 8) (.seq (.r [.m 2 (.c (.s []))]) (.ret)) (.skip))) (.seq (.r [.l 9 a [],.n 10 0,.q 11 (.idxA 6 2 true (.t 9) (.t 10)),.q 12 (.fld 0 none (.t 11)),.n 2 12]) (.ret)))⟩
theorem quy{g:Nat}(hc:qt P f (qes g)=true)(hg:qe P g [] (.agg (jR.flatMap (qQ .u32))))(a:Int):qe P f [.i .i64 a] (.s (x7 a)):=by
 refine qe.mk hc rfl ?_;simp only[qes,vI,simprocAttr]
 by_cases h1:a<0
 ·simp only[↓vS,vT,simprocAttr,h1];simp[vZ,x7,h1]
 by_cases h2:6<=a
 ·simp only[↓vS,vT,simprocAttr,h1,h2];simp[vZ,x7,h2]
 simp only[↓vS,vT,simprocAttr,h1,h2];refine hg.sc ?_;have h3:a=0∨a=1∨a=2∨a=3∨a=4∨a=5:=by omega
 rcases h3 with rfl|rfl|rfl|rfl|rfl|rfl <;>
 ·simp only[↓vS,vT,simprocAttr,jR,qQ,List.flatMap_cons,List.flatMap_nil];simp[vZ,x7,jR]
theorem qlE(a:Int):(x7 a≠[])↔(0<=a∧a<6):=by
 unfold x7;constructor
 ·intro h
  by_cases hh:a<0∨6<=a
  ·rw[if_pos hh] at h;exact absurd rfl h
  ·omega
 ·intro h;rw[if_neg (by omega)];have h3:a=0∨a=1∨a=2∨a=3∨a=4∨a=5:=by omega
  rcases h3 with rfl|rfl|rfl|rfl|rfl|rfl<;>decide
def qN(is:Int->Bool):Option Int->List Int->Bool
 | _,[]=>true
 | o,x::l=>is x&&(o.elim true fun b=>decide (b<x))&&qN is (some x) l
def qaV:IFn:=⟨[.tmp 4],.seq (.r [.m 4 .F]) (.seq (.seq (.r [.n 7 0,.e 8 7,.m 9 (.k 0)]) (.blk 0 (.loop (.seq (.r [.s 10 9 8]) (.seq (.cond (.t 10) (.skip) (.exit 0)) (.seq (.blk 1 (.seq (.r [.n 11 9,.i 12 1 7 9,.d 13 12,.n 5 11,.n 6 13]) (.seq (.r [.n 14 1,.n 15 6,⟨(some 16),.callV (.t 14) [.t 15],none⟩,.q 17 (.un .not (.t 16)),.n 18 17,.z 19 5 18,.g 20 (.bin .gtr (.t 19) (.k 0)) 18 false,.z 21 20 18,.y 22 0 21,.y 23 5 21,.g 24 (.bin .sub (.t 23) (.k 1)) 21 true,.g 25 (.iAddrS 1 (.t 22) (.t 24)) 21 true,.j 26 25 21 true,.y 27 6 21,.g 28 (.bin .geq (.t 26) (.t 27)) 21 true,.g 29 (.pick (.t 21) (.t 28) .F) 18 false,.o 30 18 29]) (.cond (.t 30) (.seq (.r [.m 4 .F]) (.ret)) (.skip))))) (.r [.a 31 9 1,.n 9 31]))))))) (.seq (.r [.m 4 .T]) (.ret)))⟩
theorem qt4(hc:qt P f qaV=true)(xs:List Int)(g:Nat)(is:Int->Bool)(hg:∀x,qe P g [.i .i64 x] (.b (is x)))(hl:xs.length<=100000):qe P f [.fz xs.length (rI .i64 xs),.fn g [] []] (.b (qN is none xs)):=by
 refine qe.mk hc (by simp[qG,clo,qd]) ?_;simp only[qaV,vI,simprocAttr];simp only[↓vS,vT,simprocAttr]
 refine SL.loop (α:=Nat) (fun j=>[(0,.fz xs.length (rI .i64 xs)),(1,.fn g [] []),(7,.fz xs.length (rI .i64 xs)),(8,.i .i64 xs.length),(9,.i .i64 j)]) (fun _=>[])
  (fun j=>j<=xs.length∧qN is none xs=qN is (if j=0 then none else xs[j-1]?) (xs.drop j)) (fun j=>xs.length-j) 0 [] ?_ ?_ ?_ rfl ?_ ?_
 ·simp[vw,qd]
 ·trivial
 ·simp
 ·exact⟨Nat.zero_le _,rfl⟩
 rintro j ⟨hj,hI⟩ G ih;simp only[vI,simprocAttr]
 by_cases hlt:j<xs.length
 ·have hx:xs[j]?=some xs[j]:=List.getElem?_eq_getElem hlt;have hw:IntKind.wrap .i64 ((j:Int)+1)=((j+1:Nat):Int):=by rw[qF (by omega) (by omega)];omega
  rw[List.drop_eq_getElem_cons hlt,qN] at hI;generalize hc0:xs[j]=c at hI hx;simp only[↓vS,vT,simprocAttr,hlt,Nat.mul_one,zF,hx,Option.map_some];refine (hg c).sc ?_;cases hk:is c with
  | false =>
   have hw:qN is none xs=false:=by rw[hI];simp[hk]
   simp only[↓vS,vT,simprocAttr];simp[vZ,hw]
  | true =>
   by_cases h0:j=0
   ·subst h0;have hn:¬(0:Int)<((0:Nat):Int):=by decide
    simp only[↓vS,vT,simprocAttr,hn,hw];refine ih 1 ⟨by omega,?_⟩ (by omega) _ _ (Wk.mk _ _ [] ?_ ?_ ?_ rfl)
    ·rw[hI,hk];simp[hx]
    ·simp[vw,qd];exact qF (by decide) (by decide)
    ·trivial
    ·simp
   ·have hp:(0:Int)<(j:Int):=by omega
    have hpl:j-1<xs.length:=by omega
    have hy:xs[j-1]?=some xs[j-1]:=List.getElem?_eq_getElem hpl;have hw2:IntKind.wrap .i64 ((j:Int)-1)=((j-1:Nat):Int):=by rw[qF (by omega) (by omega)];omega
    rw[if_neg h0,hy] at hI
    by_cases hlt2:c<=xs[j-1]
    ·have hwf:qN is none xs=false:=by rw[hI];simp[Int.not_lt.2 hlt2]
     simp only[↓vS,vT,simprocAttr,hp,hw2,hpl,hy,Nat.mul_one,zF,Option.map_some,hlt2];simp[vZ,hwf]
    ·simp only[↓vS,vT,simprocAttr,hp,hw2,hpl,hy,Nat.mul_one,zF,Option.map_some,hlt2,hw];refine ih (j+1) ⟨by omega,?_⟩ (by omega) _ _ (Wk.mk _ _ [] ?_ ?_ ?_ rfl)
     ·rw[hI,hk];simp[hx];omega
     ·simp[vw,qd]
     ·trivial
     ·simp
 ·rw[List.drop_of_length_le (by omega),qN] at hI;simp only[↓vS,vT,simprocAttr,hlt];simp[vZ,hI]
def wx:IFn:=⟨[.tmp 4],.seq (.r [.m 4 .F]) (.seq (.seq (.r [.n 7 0,.e 8 7,.m 9 (.k 0)]) (.blk 0 (.loop (.seq (.r [.s 10 9 8]) (.seq (.cond (.t 10) (.skip) (.exit 0)) (.seq (.blk 1 (.seq (.r [.n 11 9,.i 12 1 7 9,.d 13 12,.n 5 11,.n 6 13]) (.seq (.r [.n 14 1,.n 15 6,⟨(some 16),.callV (.t 14) [.t 15],none⟩,.q 17 (.un .not (.t 16)),.n 18 17,.z 19 5 18,.g 20 (.bin .gtr (.t 19) (.k 0)) 18 false,.z 21 20 18,.y 22 0 21,.y 23 5 21,.g 24 (.bin .sub (.t 23) (.k 1)) 21 true,.g 25 (.iAddrS 1 (.t 22) (.t 24)) 21 true,.j 26 25 21 true,.y 27 6 21,.g 28 (.bin .geq (.t 26) (.t 27)) 21 true,.g 29 (.pick (.t 21) (.t 28) .F) 18 false,.o 30 18 29]) (.cond (.t 30) (.seq (.r [.m 4 .F]) (.ret)) (.skip))))) (.r [.a 31 9 1,.n 9 31]))))))) (.seq (.r [.m 4 .T]) (.ret)))⟩
theorem qt5(hc:qt P f wx=true)(xs:List Int)(g:Nat)(is:Int->Bool)(hg:∀x,qe P g [.i .u32 x] (.b (is x)))(hl:xs.length<=100000):qe P f [.fz xs.length (rI .u32 xs),.fn g [] []] (.b (qN is none xs)):=by
 refine qe.mk hc (by simp[qG,clo,qd]) ?_;simp only[wx,vI,simprocAttr];simp only[↓vS,vT,simprocAttr]
 refine SL.loop (α:=Nat) (fun j=>[(0,.fz xs.length (rI .u32 xs)),(1,.fn g [] []),(7,.fz xs.length (rI .u32 xs)),(8,.i .i64 xs.length),(9,.i .i64 j)]) (fun _=>[])
  (fun j=>j<=xs.length∧qN is none xs=qN is (if j=0 then none else xs[j-1]?) (xs.drop j)) (fun j=>xs.length-j) 0 [] ?_ ?_ ?_ rfl ?_ ?_
 ·simp[vw,qd]
 ·trivial
 ·simp
 ·exact⟨Nat.zero_le _,rfl⟩
 rintro j ⟨hj,hI⟩ G ih;simp only[vI,simprocAttr]
 by_cases hlt:j<xs.length
 ·have hx:xs[j]?=some xs[j]:=List.getElem?_eq_getElem hlt;have hw:IntKind.wrap .i64 ((j:Int)+1)=((j+1:Nat):Int):=by rw[qF (by omega) (by omega)];omega
  rw[List.drop_eq_getElem_cons hlt,qN] at hI;generalize hc0:xs[j]=c at hI hx;simp only[↓vS,vT,simprocAttr,hlt,Nat.mul_one,zF,hx,Option.map_some];refine (hg c).sc ?_;cases hk:is c with
  | false =>
   have hw:qN is none xs=false:=by rw[hI];simp[hk]
   simp only[↓vS,vT,simprocAttr];simp[vZ,hw]
  | true =>
   by_cases h0:j=0
   ·subst h0;have hn:¬(0:Int)<((0:Nat):Int):=by decide
    simp only[↓vS,vT,simprocAttr,hn,hw];refine ih 1 ⟨by omega,?_⟩ (by omega) _ _ (Wk.mk _ _ [] ?_ ?_ ?_ rfl)
    ·rw[hI,hk];simp[hx]
    ·simp[vw,qd];exact qF (by decide) (by decide)
    ·trivial
    ·simp
   ·have hp:(0:Int)<(j:Int):=by omega
    have hpl:j-1<xs.length:=by omega
    have hy:xs[j-1]?=some xs[j-1]:=List.getElem?_eq_getElem hpl;have hw2:IntKind.wrap .i64 ((j:Int)-1)=((j-1:Nat):Int):=by rw[qF (by omega) (by omega)];omega
    rw[if_neg h0,hy] at hI
    by_cases hlt2:c<=xs[j-1]
    ·have hwf:qN is none xs=false:=by rw[hI];simp[Int.not_lt.2 hlt2]
     simp only[↓vS,vT,simprocAttr,hp,hw2,hpl,hy,Nat.mul_one,zF,Option.map_some,hlt2];simp[vZ,hwf]
    ·simp only[↓vS,vT,simprocAttr,hp,hw2,hpl,hy,Nat.mul_one,zF,Option.map_some,hlt2,hw];refine ih (j+1) ⟨by omega,?_⟩ (by omega) _ _ (Wk.mk _ _ [] ?_ ?_ ?_ rfl)
     ·rw[hI,hk];simp[hx];omega
     ·simp[vw,qd]
     ·trivial
     ·simp
 ·rw[List.drop_of_length_le (by omega),qN] at hI;simp only[↓vS,vT,simprocAttr,hlt];simp[vZ,hI]
def qJ(n:Int):List (List UInt8×Int)->List UInt8
 | []=>[]
 | p::l=>if p.2=n then p.1 else qJ n l
def qbh:IFn:=⟨[.tmp 4],.seq (.r [.m 4 (.c (.s []))]) (.seq (.seq (.r [.n 7 0,.e 8 7,.m 9 (.k 0)]) (.blk 0 (.loop (.seq (.r [.s 10 9 8]) (.seq (.cond (.t 10) (.skip) (.exit 0)) (.seq (.blk 1 (.seq (.r [.i 11 2 7 9,.v 12 2 11,.q 6 (.alloc [.s [],.i .u32 0]),.u (.store 2 (.t 6) (.t 12))]) (.seq (.r [.f 13 1 6,.d 14 13,.n 15 1,.b 16 .eql 14 15]) (.cond (.t 16) (.seq (.r [.f 17 0 6,.d 18 17,.n 4 18]) (.ret)) (.skip))))) (.r [.a 19 9 1,.n 9 19]))))))) (.seq (.r [.m 4 (.c (.s []))]) (.ret)))⟩
theorem qwp(hc:qt P f qbh=true)(l:List (List UInt8×Int))(n:Int)(hl:l.length<=qf):qe P f [.fz l.length (l.flatMap (qQ .u32)),.i .u32 n] (.s (qJ n l)):=by
 refine qe.mk hc (by simp[qG,clo]) ?_;simp only[qbh,vI,simprocAttr];simp only[↓vS,vT,simprocAttr];refine SL.loop (α:=Nat) (fun j=>[(1,.i .u32 n),(7,.fz l.length (l.flatMap (qQ .u32))),(8,.i .i64 l.length),(9,.i .i64 j)]) (fun _=>[]) (fun j=>j<=l.length∧qJ n l=qJ n (l.drop j)) (fun j=>l.length-j) 0 [] ?_ ?_ ?_ rfl ?_ ?_
 ·simp[vw]
 ·trivial
 ·simp
 ·simp
 rintro j ⟨hj,hI⟩ G ih;simp only[vI,simprocAttr]
 by_cases hlt:j<l.length
 ·have hx:l[j]?=some l[j]:=List.getElem?_eq_getElem hlt;have hw:IntKind.wrap .i64 ((j:Int)+1)=(j:Int)+1:=qF (by omega) (by have:=hl;simp only[qf] at this;omega)
  have he:=j0 (f:=qQ .u32) (m:=2) qaL hx;have hb:j*2+2<=(l.flatMap (qQ .u32)).length:=by rw[jq (m:=2) qaL];omega
  rw[List.drop_eq_getElem_cons hlt,qJ] at hI;simp only[↓vS,vT,simprocAttr,hlt,hb,he,qQ,hw];split
  ·rename_i hs;rw[hI,if_pos hs];simp only[vZ,and_self,true_and]
  ·rename_i hs;rw[if_neg hs] at hI;refine ih (j+1) ⟨by omega,hI⟩ (by omega) _ _ (Wk.mk _ _ [] ?_ ?_ ?_ rfl)
   ·simp[vw]
   ·trivial
   ·simp
 ·simp only[↓vS,vT,simprocAttr,hlt,vZ];rw[List.drop_eq_nil_of_le (by omega),qJ] at hI;rw[hI]
def qbi:IFn:=⟨[.tmp 4],.seq (.r [.m 4 (.c (.s []))]) (.seq (.seq (.r [.n 7 0,.e 8 7,.m 9 (.k 0)]) (.blk 0 (.loop (.seq (.r [.s 10 9 8]) (.seq (.cond (.t 10) (.skip) (.exit 0)) (.seq (.blk 1 (.seq (.r [.i 11 2 7 9,.v 12 2 11,.q 6 (.alloc [.s [],.i .u64 0]),.u (.store 2 (.t 6) (.t 12))]) (.seq (.r [.f 13 1 6,.d 14 13,.n 15 1,.b 16 .eql 14 15]) (.cond (.t 16) (.seq (.r [.f 17 0 6,.d 18 17,.n 4 18]) (.ret)) (.skip))))) (.r [.a 19 9 1,.n 9 19]))))))) (.seq (.r [.m 4 (.c (.s []))]) (.ret)))⟩
theorem qwq(hc:qt P f qbi=true)(l:List (List UInt8×Int))(n:Int)(hl:l.length<=qf):qe P f [.fz l.length (l.flatMap (qQ .u64)),.i .u64 n] (.s (qJ n l)):=by
 refine qe.mk hc (by simp[qG,clo]) ?_;simp only[qbi,vI,simprocAttr];simp only[↓vS,vT,simprocAttr];refine SL.loop (α:=Nat) (fun j=>[(1,.i .u64 n),(7,.fz l.length (l.flatMap (qQ .u64))),(8,.i .i64 l.length),(9,.i .i64 j)]) (fun _=>[]) (fun j=>j<=l.length∧qJ n l=qJ n (l.drop j)) (fun j=>l.length-j) 0 [] ?_ ?_ ?_ rfl ?_ ?_
 ·simp[vw]
 ·trivial
 ·simp
 ·simp
 rintro j ⟨hj,hI⟩ G ih;simp only[vI,simprocAttr]
 by_cases hlt:j<l.length
 ·have hx:l[j]?=some l[j]:=List.getElem?_eq_getElem hlt;have hw:IntKind.wrap .i64 ((j:Int)+1)=(j:Int)+1:=qF (by omega) (by have:=hl;simp only[qf] at this;omega)
  have he:=j0 (f:=qQ .u64) (m:=2) qaL hx;have hb:j*2+2<=(l.flatMap (qQ .u64)).length:=by rw[jq (m:=2) qaL];omega
  rw[List.drop_eq_getElem_cons hlt,qJ] at hI;simp only[↓vS,vT,simprocAttr,hlt,hb,he,qQ,hw];split
  ·rename_i hs;rw[hI,if_pos hs];simp only[vZ,and_self,true_and]
  ·rename_i hs;rw[if_neg hs] at hI;refine ih (j+1) ⟨by omega,hI⟩ (by omega) _ _ (Wk.mk _ _ [] ?_ ?_ ?_ rfl)
   ·simp[vw]
   ·trivial
   ·simp
 ·simp only[↓vS,vT,simprocAttr,hlt,vZ];rw[List.drop_eq_nil_of_le (by omega),qJ] at hI;rw[hI]
def qaU(a b:Nat):IFn:=⟨[.tmp 2],.seq (.r [.m 2 (.c (.s []))]) (.seq (.r [.l 4 a [],.q 3 (.alloc [.s [],.i .u32 0,.s [],.i .u32 0,.s [],.i .u32 0,.s [],.i .u32 0,.s [],.i .u32 0,.s [],.i .u32 0,.s [],.i .u32 0,.s [],.i .u32 0]),.u (.store 16 (.t 3) (.t 4))]) (.seq (.r [.q 5 (.slcA 8 2 (.t 3) none none none),.n 6 0,.l 7 b [.t 5,.t 6],.n 2 7]) (.ret)))⟩
theorem qrH{g1 g2:Nat}(hc:qt P f (qaU g1 g2)=true)(h1:qe P g1 [] (.agg (qm.flatMap (qQ .u32))))(h2:∀(l:List (List UInt8×Int)) (n:Int),l.length<=qf->qe P g2 [.fz l.length (l.flatMap (qQ .u32)),.i .u32 n] (.s (qJ n l)))(n:Int):qe P f [.i .u32 n] (.s (qJ n qm)):=by
 refine qe.mk hc rfl ?_;simp only[qaU,vI,simprocAttr];simp only[↓vS,vT,simprocAttr];refine h1.sc ?_;simp only[↓vS,vT,simprocAttr,qm,qQ,List.flatMap_cons,List.flatMap_nil];refine (h2 qm n (by decide)).lend (vs':=[.fz 8 (qm.flatMap (qQ .u32)),.i .u32 n]) ?_ rfl ?_
 ·refine .cons _ _ _ _ (.cut 2 rfl (Nat.le_refl _) ?_) (.cons _ _ _ _ (.i _ _) .nil);simp[vw,qm,qQ]
 simp only[↓vS,vT,simprocAttr,vZ,and_self,qm]
def qcF:IFn:=⟨[.tmp 2],.seq (.r [.q 1 (.box (.t 0)),.m 2 .F]) (.seq (.r [.f 3 1 1,.d 4 3,.q 5 (.bin .neq (.t 4) (.c (.i .u32 0))),.n 2 5]) (.ret))⟩
theorem qwT(hc:qt P f qcF=true)(c:GCall):qe P f [.agg (zf c)] (.b (decide (c.act≠0))):=by
 refine qe.mk hc rfl ?_;simp only[qcF,zf,vI,simprocAttr]
 by_cases h:c.act=0 <;>
 ·simp only[↓vS,vT,simprocAttr,h];simp[vZ,h]
def qcG(a:Nat):IFn:=⟨[.tmp 2],.seq (.r [.m 2 .F]) (.seq (.r [.n 3 0,.l 4 a [.t 3],.q 5 (.bin .neq (.t 4) (.c (.s []))),.n 2 5]) (.ret))⟩
theorem qwU{g:Nat}(hc:qt P f (qcG g)=true)(hg:∀a,qe P g [.i .i64 a] (.s (x7 a)))(a:Int):qe P f [.i .i64 a] (.b (decide (0<=a)&&decide (a<6))):=by
 refine qe.mk hc rfl ?_;simp only[qcG,vI,simprocAttr];simp only[↓vS,vT,simprocAttr];refine (hg a).sc ?_;have h:=qlE a
 by_cases h':x7 a=[]
 ·have h2:(decide (0<=a)&&decide (a<6))=false:=by
   have:=mt h.2 (by simpa using h');simp only[Bool.and_eq_false_iff,decide_eq_false_iff_not];omega
  simp only[↓vS,vT,simprocAttr,h'];simp[vZ,h2]
 ·have h2:=h.1 h';simp only[↓vS,vT,simprocAttr,h'];simp[vZ,h2]
def qcp(n:Int):Bool:=decide (qJ n qm≠[])
def qcH(a:Nat):IFn:=⟨[.tmp 2],.seq (.r [.m 2 .F]) (.seq (.r [.n 3 0,.l 4 a [.t 3],.q 5 (.bin .neq (.t 4) (.c (.s []))),.n 2 5]) (.ret))⟩
theorem qwV{g:Nat}(hc:qt P f (qcH g)=true)(hg:∀a,qe P g [.i .u32 a] (.s (qJ a qm)))(a:Int):qe P f [.i .u32 a] (.b (qcp a)):=by
 refine qe.mk hc rfl ?_;simp only[qcH,vI,simprocAttr];simp only[↓vS,vT,simprocAttr];refine (hg a).sc ?_;unfold qcp;generalize qJ a qm=s
 by_cases h':s=[] <;>
 ·simp only[↓vS,vT,simprocAttr,h'];simp[vZ,h']
def zL(a:Nat):IFn:=⟨[.tmp 4],.seq (.r [.m 4 .F]) (.seq (.r [.n 5 0,.n 6 1,.l 7 a [.t 5,.t 6],.w 8 .geq 7 0,.n 4 8]) (.ret))⟩
theorem qf8{α:Type}(p:α->Bool):∀(l:List α) (j:Nat),decide (0<=qbt p l j)=l.any p
 | [],j=>by simp[qbt]
 | x::l,j=>by
  rw[qbt]
  by_cases h:p x=true
  ·simp[h]
  ·rw[if_neg h,qf8 p l (j+1)];simp[h]
theorem ql7{g:Nat}(hc:qt P f (zL g)=true)(h:qeH 2 P g)(l:List GCall)(k:Nat)(p:GCall->Bool)(hk:∀c,qe P k [.agg (zf c)] (.b (p c)))(hl:l.length<=qf):qe P f [.fz l.length (rC l),.fn k [] []] (.b (l.any p)):=by
 refine qe.mk hc (by simp[qG,clo,qc]) ?_;simp only[zL,vI,simprocAttr];simp only[↓vS,vT,simprocAttr];refine (h zf p k [] [] l qdi rfl rfl hl fun x _=>hk x).sc ?_
 simp only[↓vS,vT,simprocAttr];simp[vZ,← qf8 p l 0]
def qay(a b c d e g h i:Nat):ICode:=.seq (.reg true [.n 46 3,.n 47 46,.y 48 4 47,.p 49 47 48,.n 50 49,.y 51 5 50,.p 52 50 51,.n 53 52,.y 54 6 53,.p 55 53 54,.n 56 55,.y 57 7 56,.p 58 56 57,.n 59 58,.h 60 1 1 59 true,.g 61 (.loadN 2 (.t 60)) 59 true,⟨(some 62),.callF h [.t 61],(some (59,true))⟩,.p 63 59 62,.n 64 63,.h 65 4 1 64 true,.g 66 (.loadN 2 (.t 65)) 64 true,⟨(some 67),.callF h [.t 66],(some (64,true))⟩,.p 68 64 67,.n 69 68,.h 70 8 1 69 true,.j 71 70 69 true,⟨(some 72),.callF i [],(some (69,true))⟩,.g 73 (.bin .andNot (.t 71) (.t 72)) 69 true,.g 74 (.bin .eql (.t 73) (.c (.i .u64 0))) 69 true,.p 75 69 74,.n 2 75]) (.ret)
def jA(a b c d e g h i:Nat):ICode:=.seq (.r [.f 40 0 1,.d 41 40,.l 42 c [.t 41,(.c (.fn d [] []))],.n 6 42]) (.seq (.r [.f 43 6 1,.d 44 43,.l 45 e [.t 44,(.c (.fn g [] []))],.n 7 45]) (.cut (qay a b c d e g h i)))
def jz(a b c d e g h i:Nat):ICode:=.seq (.r [.f 26 7 1,.d 27 26,.q 28 (.bin .leq (.t 27) (.c (.i .u8 2))),.n 29 28,.h 30 7 1 29 true,.j 31 30 29 true,.g 32 (.bin .neq (.t 31) (.c (.i .u8 0))) 29 true,.y 33 32 29,.h 34 6 1 33 false,.j 35 34 33 false,.g 36 (.len false (.t 35)) 33 false,.g 37 (.bin .eql (.t 36) (.k 0)) 33 false,.g 38 (.pick (.t 33) .T (.t 37)) 29 true,.p 39 29 38,.n 5 39]) (.cut (jA a b c d e g h i))
def qdH(a b c d e g h i:Nat):IFn:=⟨[.tmp 2],.seq (.r [.q 1 (.box (.t 0)),.m 2 .F]) (.seq (.r [.f 8 4 1,.f 9 1 8,.d 10 9,.l 11 a [.t 10,(.c (.fn b [] []))],.q 12 (.un .not (.t 11)),.n 3 12]) (.seq (.r [.f 13 3 1,.d 14 13,.q 15 (.bin .eql (.t 14) (.c (.i .u32 2147483648))),.n 16 15,.h 17 3 1 16 false,.j 18 17 16 false,.g 19 (.bin .geq (.t 18) (.c (.i .u32 327680))) 16 false,.z 20 19 16,.h 21 3 1 20 true,.j 22 21 20 true,.g 23 (.bin .leq (.t 22) (.c (.i .u32 331775))) 20 true,.g 24 (.pick (.t 20) (.t 23) .F) 16 false,.o 25 16 24,.n 4 25]) (.cut (jz a b c d e g h i))))⟩
noncomputable def qah(p:Pol):Bool:=x5 p.filter&&x5 p.log&&decide (qfp .u64 p.spaces 2114060416=0)
theorem qpF{g1 g2 g3 g4 g5 g6 g7 g8:Nat}(h7:∀l:GList,l.calls.length<=100000->qe P g7 [.agg (qu l)] (.b (x5 l)))
  (h8:qe P g8 [] (.i .u64 2114060416)) (p:Pol) (hp:PolOk p) (o d m a fm:Bool) {t':Tr AV} {h':Hp} (hw:Wk 0 t' h' (mkT [(1,.ptr 0 0),(2,.b false),(3,.b o),(4,.b d),(5,.b m),(6,.b a),(7,.b fm)]) (mkH 0 [.cells 0 true false (qj p)])) :
  S P 0 (qay g1 g2 g3 g4 g5 g6 g7 g8) (jD [.tmp 2] fun v' h'=>Frz h' v' (.b (o&&d&&m&&a&&fm&&qah p))) t' h':=by
 have hcc:=hp.c;have hl:=hp.l;refine S.weak hw (qr ?_);simp only[qay,qj,vI,simprocAttr];simp only[↓vS,vT,simprocAttr];refine xb ?_;cases o
 ·simp only[↓vS,vT,simprocAttr];simp[vZ]
 cases d
 ·simp only[↓vS,vT,simprocAttr];simp[vZ]
 cases m
 ·simp only[↓vS,vT,simprocAttr];simp[vZ]
 cases a
 ·simp only[↓vS,vT,simprocAttr];simp[vZ]
 cases fm
 ·simp only[↓vS,vT,simprocAttr];simp[vZ]
 simp only[↓vS,vT,simprocAttr];refine (h7 p.filter (by omega)).pc ?_;cases hF:x5 p.filter
 ·simp only[↓vS,vT,simprocAttr];simp[vZ,qah,hF]
 simp only[↓vS,vT,simprocAttr];refine (h7 p.log (by omega)).pc ?_;cases hL:x5 p.log
 ·simp only[↓vS,vT,simprocAttr];simp[vZ,qah,hF,hL]
 simp only[↓vS,vT,simprocAttr];refine h8.pc ?_;simp only[↓vS,vT,simprocAttr];simp[vZ,qah,hF,hL]
theorem qpE{g1 g2 g3 g4 g5 g6 g7 g8:Nat}(h3:∀(xs:List Int) (g:Nat) (is:Int->Bool),(∀x,qe P g [.i .i64 x] (.b (is x)))->xs.length<=100000->qe P g3 [.fz xs.length (rI .i64 xs),.fn g [] []] (.b (qN is none xs)))
  (h4:∀a,qe P g4 [.i .i64 a] (.b (decide (0<=a)&&decide (a<6))))
  (h5:∀(xs:List Int) (g:Nat) (is:Int->Bool),(∀x,qe P g [.i .u32 x] (.b (is x)))->xs.length<=100000->qe P g5 [.fz xs.length (rI .u32 xs),.fn g [] []] (.b (qN is none xs)))
  (h6:∀a,qe P g6 [.i .u32 a] (.b (qcp a)))
  (h7:∀l:GList,l.calls.length<=100000->qe P g7 [.agg (qu l)] (.b (x5 l)))
  (h8:qe P g8 [] (.i .u64 2114060416)) (p:Pol) (hp:PolOk p) (o d m:Bool) {t':Tr AV} {h':Hp} (hw:Wk 0 t' h' (mkT [(1,.ptr 0 0),(2,.b false),(3,.b o),(4,.b d),(5,.b m)]) (mkH 0 [.cells 0 true false (qj p)])) :
  S P 0 (jA g1 g2 g3 g4 g5 g6 g7 g8) (jD [.tmp 2] fun v' h'=>Frz h' v' (.b (o&&d&&m&&qN (fun a=>decide (0<=a)&&decide (a<6)) none p.arches&&qN qcp none p.fams&&qah p))) t' h':=by
 have ha:=hp.a;have hf:=hp.f;refine S.weak hw (qr ?_);simp only[jA,qj,vI,simprocAttr];simp only[↓vS,vT,simprocAttr];refine (h3 p.arches g4 _ h4 (by omega)).sc ?_;simp only[↓vS,vT,simprocAttr];refine (h5 p.fams g6 _ h6 (by omega)).sc ?_;simp only[↓vS,vT,simprocAttr];refine qpF h7 h8 p hp o d m _ _ (Wk.mk _ _ [0] ?_ ?_ ?_ rfl)
 ·simp[vw]
 ·simp[vw,qj,qd,qc]
 ·simp
def qaJ(p:Pol):Bool:=decide (p.fmode<=2)&&(decide (p.fmode≠0)||decide (p.fams=[]))
theorem qpD{g1 g2 g3 g4 g5 g6 g7 g8:Nat}(h3:∀(xs:List Int) (g:Nat) (is:Int->Bool),(∀x,qe P g [.i .i64 x] (.b (is x)))->xs.length<=100000->qe P g3 [.fz xs.length (rI .i64 xs),.fn g [] []] (.b (qN is none xs)))
  (h4:∀a,qe P g4 [.i .i64 a] (.b (decide (0<=a)&&decide (a<6))))
  (h5:∀(xs:List Int) (g:Nat) (is:Int->Bool),(∀x,qe P g [.i .u32 x] (.b (is x)))->xs.length<=100000->qe P g5 [.fz xs.length (rI .u32 xs),.fn g [] []] (.b (qN is none xs)))
  (h6:∀a,qe P g6 [.i .u32 a] (.b (qcp a)))
  (h7:∀l:GList,l.calls.length<=100000->qe P g7 [.agg (qu l)] (.b (x5 l)))
  (h8:qe P g8 [] (.i .u64 2114060416)) (p:Pol) (hp:PolOk p) (o d:Bool) {t':Tr AV} {h':Hp} (hw:Wk 0 t' h' (mkT [(1,.ptr 0 0),(2,.b false),(3,.b o),(4,.b d)]) (mkH 0 [.cells 0 true false (qj p)])) :
  S P 0 (jz g1 g2 g3 g4 g5 g6 g7 g8) (jD [.tmp 2] fun v' h'=>Frz h' v' (.b (o&&d&&qaJ p&&qN (fun a=>decide (0<=a)&&decide (a<6)) none p.arches&&qN qcp none p.fams&&qah p))) t' h':=by
 refine S.weak hw (qr ?_);simp only[jz,qj,vI,simprocAttr]
 have go:∀m,m=qaJ p->∀{t':Tr AV} {h':Hp},Wk 0 t' h' (mkT [(1,.ptr 0 0),(2,.b false),(3,.b o),(4,.b d),(5,.b m)]) (mkH 0 [.cells 0 true false (qj p)])->S P 0 (jA g1 g2 g3 g4 g5 g6 g7 g8) (jD [.tmp 2] fun v' h'=>Frz h' v' (.b (o&&d&&qaJ p&&qN (fun a=>decide (0<=a)&&decide (a<6)) none p.arches&&qN qcp none p.fams&&qah p))) t' h':=by
  rintro m rfl t' h' hw;exact qpE h3 h4 h5 h6 h7 h8 p hp o d _ hw
 by_cases m1:p.fmode<=2
 ·by_cases m2:p.fmode=0
  ·by_cases m3:p.fams=[]
   ·have h0:(p.fams.length:Int)=0:=by rw[m3];rfl
    simp only[↓vS,vT,simprocAttr,m1,m2,h0];refine go true (by simp[qaJ,m1,m2,m3]) (Wk.mk _ _ [0] ?_ ?_ ?_ rfl)
    ·simp[vw]
    ·simp[vw,qj,qd,qc,m2]
    ·simp
   ·have h0:((p.fams.length:Int)=0)=False:=eq_false (by have:=List.length_pos_iff.2 m3;omega)
    simp only[↓vS,vT,simprocAttr,m1,m2,h0];refine go false (by simp[qaJ,m1,m2,m3]) (Wk.mk _ _ [0] ?_ ?_ ?_ rfl)
    ·simp[vw]
    ·simp[vw,qj,qd,qc,m2]
    ·simp
  ·simp only[↓vS,vT,simprocAttr,m1,m2];refine go true (by simp[qaJ,m1,m2]) (Wk.mk _ _ [0] ?_ ?_ ?_ rfl)
   ·simp[vw]
   ·simp[vw,qj,qd,qc]
   ·simp
 ·simp only[↓vS,vT,simprocAttr,m1];refine go false (by simp[qaJ,m1]) (Wk.mk _ _ [0] ?_ ?_ ?_ rfl)
  ·simp[vw]
  ·simp[vw,qj,qd,qc]
  ·simp
def qaE(n:Int):Bool:=decide (n=2147483648)||(decide (327680<=n)&&decide (n<=331775))
noncomputable def qag(p:Pol):Bool:=!(p.log.calls.any fun c=>decide (c.act≠0))&&qaE p.deny&&qaJ p&&qN (fun a=>decide (0<=a)&&decide (a<6)) none p.arches&&qN qcp none p.fams&&qah p
theorem qtZ{g1 g2 g3 g4 g5 g6 g7 g8:Nat}(hc:qt P f (qdH g1 g2 g3 g4 g5 g6 g7 g8)=true)
  (h1:∀(l:List GCall) (k:Nat) (p:GCall->Bool),(∀c,qe P k [.agg (zf c)] (.b (p c)))->l.length<=qf->qe P g1 [.fz l.length (rC l),.fn k [] []] (.b (l.any p)))
  (h2:∀c,qe P g2 [.agg (zf c)] (.b (decide (c.act≠0))))
  (h3:∀(xs:List Int) (g:Nat) (is:Int->Bool),(∀x,qe P g [.i .i64 x] (.b (is x)))->xs.length<=100000->qe P g3 [.fz xs.length (rI .i64 xs),.fn g [] []] (.b (qN is none xs)))
  (h4:∀a,qe P g4 [.i .i64 a] (.b (decide (0<=a)&&decide (a<6))))
  (h5:∀(xs:List Int) (g:Nat) (is:Int->Bool),(∀x,qe P g [.i .u32 x] (.b (is x)))->xs.length<=100000->qe P g5 [.fz xs.length (rI .u32 xs),.fn g [] []] (.b (qN is none xs)))
  (h6:∀a,qe P g6 [.i .u32 a] (.b (qcp a)))
  (h7:∀l:GList,l.calls.length<=100000->qe P g7 [.agg (qu l)] (.b (x5 l)))
  (h8:qe P g8 [] (.i .u64 2114060416)) (p:Pol) (hp:PolOk p):qe P f [.agg (qj p)] (.b (qag p)):=by
 have hl:=hp.l;refine qe.mk hc rfl ?_
 have go:∀d,d=qaE p.deny->∀{t':Tr AV} {h':Hp},Wk 0 t' h' (mkT [(1,.ptr 0 0),(2,.b false),(3,.b (!(p.log.calls.any fun c=>decide (c.act≠0)))),(4,.b d)]) (mkH 0 [.cells 0 true false (qj p)])->S P 0 (jz g1 g2 g3 g4 g5 g6 g7 g8) (jD [.tmp 2] fun v' h'=>Frz h' v' (.b (qag p))) t' h':=by
  rintro d rfl t' h' hw;exact qpD h3 h4 h5 h6 h7 h8 p hp _ _ hw
 simp only[qdH,qj,vI,simprocAttr];simp only[↓vS,vT,simprocAttr];refine (h1 p.log.calls g2 _ h2 (by simp only[qf];omega)).sc ?_
 by_cases d1:p.deny=2147483648
 ·simp only[↓vS,vT,simprocAttr,d1];refine go true (by simp[qaE,d1]) (Wk.mk _ _ [0] ?_ ?_ ?_ rfl)
  ·simp[vw]
  ·simp[vw,qj,qd,qc,d1]
  ·simp
 by_cases d2:327680<=p.deny
 ·by_cases d3:p.deny<=331775
  ·simp only[↓vS,vT,simprocAttr,d1,d2,d3];refine go true (by simp[qaE,d1,d2,d3]) (Wk.mk _ _ [0] ?_ ?_ ?_ rfl)
   ·simp[vw]
   ·simp[vw,qj,qd,qc]
   ·simp
  ·simp only[↓vS,vT,simprocAttr,d1,d2,d3];refine go false (by simp[qaE,d1,d2,d3]) (Wk.mk _ _ [0] ?_ ?_ ?_ rfl)
   ·simp[vw]
   ·simp[vw,qj,qd,qc]
   ·simp
 ·simp only[↓vS,vT,simprocAttr,d1,d2];refine go false (by simp[qaE,d1,d2]) (Wk.mk _ _ [0] ?_ ?_ ?_ rfl)
  ·simp[vw]
  ·simp[vw,qj,qd,qc]
  ·simp
end Go.Kc
end
