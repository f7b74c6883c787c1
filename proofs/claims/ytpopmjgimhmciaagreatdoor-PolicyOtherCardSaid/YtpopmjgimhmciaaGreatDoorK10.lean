/- Part 10 of the abstract machine and of the functions' walks. Conditions: with each theorem. -/
import Derived.Test.YtpopmjgimhmciaaGreatDoorK9
set_option linter.unusedSimpArgs false
set_option linter.unusedVariables false
set_option linter.unnecessarySimpa false
section
/- What policy.May answers. Condition: the functions' texts are these. -/
namespace Go.Kc
variable {P:Program} {f:Nat}
def Jv (a:Int):List UInt8:=if a < 0∨6<=a then [] else (zJ.getD a.toNat ([],0)).1
def XJ (f_arch_table:Nat):IFn:=⟨[.tmp 2],.seq (.r [.m 2 (.c (.s []))]) (.seq (.seq (.r [.m 3 (.t 0),.q 4 (.bin .lss (.t 3) (.k 0)),.m 5 (.t 4),.g 6 (.mov (.t 0)) 5 false,.g 7 (.bin .geq (.t 6) (.k 6)) 5 false,.q 8 (.pick (.t 5) (.c (.b true)) (.t 7))]) (.cond (.t 8) (.seq (.r [.m 2 (.c (.s []))]) (.ret)) (.skip))) (.seq (.r [.l 9 f_arch_table [],.m 10 (.t 0),.q 11 (.idxA 6 2 true (.t 9) (.t 10)),.q 12 (.fld 0 none (.t 11)),.m 2 (.t 12)]) (.ret)))⟩
theorem qqr {g:Nat} (hc:qm P f (XJ g) = true) (hg:qg P g [] (.agg (zJ.flatMap (zV .u32)))) (a:Int):qg P f [.i .i64 a] (.s (Jv a)):=by
 refine qg.mk hc rfl ?_
 simp only [XJ,qh,H0,mkT,mkH,trL,vI,simprocAttr]
 by_cases h1:a < 0
 ·simp only [↓vS,vT,shb,shv,qb,qc,cellsOf,wr,qa,simprocAttr,h1]
  simp [vZ,Jv,h1]
 by_cases h2:6<=a
 ·simp only [↓vS,vT,shb,shv,qb,qc,cellsOf,wr,qa,simprocAttr,h1,h2]
  simp [vZ,Jv,h2]
 simp only [↓vS,vT,shb,shv,qb,qc,cellsOf,wr,qa,simprocAttr,h1,h2]
 refine hg.sc ?_
 have h3:a = 0∨a = 1∨a = 2∨a = 3∨a = 4∨a = 5:=by omega
 rcases h3 with rfl | rfl | rfl | rfl | rfl | rfl <;>
 ·simp only [↓vS,vT,shb,shv,qb,qc,cellsOf,wr,qa,simprocAttr,zJ,zV,List.flatMap_cons,List.flatMap_nil]
  simp [vZ,Jv,zJ]
theorem qgX (a:Int):(Jv a≠[])↔(0<=a∧a < 6):=by
 unfold Jv
 constructor
 ·intro h
  by_cases hh:a < 0∨6<=a
  ·rw [if_pos hh] at h; exact absurd rfl h
  ·omega
 ·intro h
  rw [if_neg (by omega)]
  have h3:a = 0∨a = 1∨a = 2∨a = 3∨a = 4∨a = 5:=by omega
  rcases h3 with rfl | rfl | rfl | rfl | rfl | rfl <;> decide
def zI (is:Int->Bool):Option Int->List Int->Bool
 | _,[]=>true
 | o,x :: l=>is x && (o.elim true fun b=>decide (b < x)) && zI is (some x) l
def ko:IFn:=⟨[.tmp 4],.seq (.r [.m 4 (.c (.b false))]) (.seq (.seq (.r [.m 7 (.t 0),.q 8 (.len false (.t 7)),.m 9 (.k 0)]) (.blk 0 (.loop (.seq (.r [.q 10 (.bin .lss (.t 9) (.t 8))]) (.seq (.cond (.t 10) (.skip) (.exit 0)) (.seq (.blk 1 (.seq (.r [.m 11 (.t 9),.q 12 (.iAddrS 1 (.t 7) (.t 9)),.q 13 (.load1 (.t 12)),.m 5 (.t 11),.m 6 (.t 13)]) (.seq (.r [.m 14 (.t 1),.m 15 (.t 6),⟨(some 16),.callV (.t 14) [.t 15],none⟩,.q 17 (.un .not (.t 16)),.m 18 (.t 17),.g 19 (.mov (.t 5)) 18 false,.g 20 (.bin .gtr (.t 19) (.k 0)) 18 false,.g 21 (.mov (.t 20)) 18 false,.g 22 (.mov (.t 0)) 21 true,.g 23 (.mov (.t 5)) 21 true,.g 24 (.bin .sub (.t 23) (.k 1)) 21 true,.g 25 (.iAddrS 1 (.t 22) (.t 24)) 21 true,.g 26 (.load1 (.t 25)) 21 true,.g 27 (.mov (.t 6)) 21 true,.g 28 (.bin .geq (.t 26) (.t 27)) 21 true,.g 29 (.pick (.t 21) (.t 28) (.c (.b false))) 18 false,.q 30 (.pick (.t 18) (.c (.b true)) (.t 29))]) (.cond (.t 30) (.seq (.r [.m 4 (.c (.b false))]) (.ret)) (.skip))))) (.r [.q 31 (.bin .add (.t 9) (.k 1)),.m 9 (.t 31)]))))))) (.seq (.r [.m 4 (.c (.b true))]) (.ret)))⟩
theorem qpV (hc:qm P f ko = true) (xs:List Int) (g:Nat) (is:Int->Bool) (hg:∀ x,qg P g [.i .i64 x] (.b (is x))) (hl:xs.length<=100000):qg P f [.fz xs.length (rI .i64 xs),.fn g [] []] (.b (zI is none xs)):=by
 refine qg.mk hc (by simp [qw,clo,qk]) ?_
 simp only [ko,qh,H0,mkT,mkH,trL,vI,simprocAttr]
 simp only [↓vS,vT,shb,shv,qb,qc,cellsOf,wr,qa,simprocAttr]
 refine SL.loop (α:=Nat) (fun j=>[(0,.fz xs.length (rI .i64 xs)),(1,.fn g [] []),(7,.fz xs.length (rI .i64 xs)),(8,.i .i64 xs.length),(9,.i .i64 j)]) (fun _=>[])
  (fun j=>j<=xs.length∧zI is none xs = zI is (if j = 0 then none else xs[j - 1]?) (xs.drop j)) (fun j=>xs.length - j) 0 [] ?_ ?_ ?_ rfl ?_ ?_
 ·simp [vw,qk]
 ·trivial
 ·simp
 ·exact ⟨Nat.zero_le _,rfl⟩
 rintro j ⟨hj,hI⟩ G ih
 simp only [qh,H0,mkT,mkH,trL,vI,simprocAttr]
 by_cases hlt:j < xs.length
 ·have hx:xs[j]? = some xs[j]:=List.getElem?_eq_getElem hlt
  have hw:IntKind.wrap .i64 ((j:Int) + 1) = ((j + 1:Nat):Int):=by rw [qG (by omega) (by omega)]; omega
  rw [List.drop_eq_getElem_cons hlt,zI] at hI
  generalize hc0:xs[j] = c at hI hx
  simp only [↓vS,vT,shb,shv,qb,qc,cellsOf,wr,qa,simprocAttr,hlt,Nat.mul_one,jw,hx,Option.map_some]
  refine (hg c).sc ?_
  cases hk:is c with
  | false =>
   have hw:zI is none xs = false:=by rw [hI]; simp [hk]
   simp only [↓vS,vT,shb,shv,qb,qc,cellsOf,wr,qa,simprocAttr]
   simp [vZ,hw]
  | true =>
   by_cases h0:j = 0
   ·subst h0
    have hn:¬ (0:Int) < ((0:Nat):Int):=by decide
    simp only [↓vS,vT,shb,shv,qb,qc,cellsOf,wr,qa,simprocAttr,hn,hw]
    refine ih 1 ⟨by omega,?_⟩ (by omega) _ _ (Wk.mk _ _ [] ?_ ?_ ?_ rfl)
    ·rw [hI,hk]; simp [hx]
    ·simp [vw,qk]
     exact qG (by decide) (by decide)
    ·trivial
    ·simp
   ·have hp:(0:Int) < (j:Int):=by omega
    have hpl:j - 1 < xs.length:=by omega
    have hy:xs[j - 1]? = some xs[j - 1]:=List.getElem?_eq_getElem hpl
    have hw2:IntKind.wrap .i64 ((j:Int) - 1) = ((j - 1:Nat):Int):=by rw [qG (by omega) (by omega)]; omega
    rw [if_neg h0,hy] at hI
    by_cases hlt2:c<=xs[j - 1]
    ·have hwf:zI is none xs = false:=by rw [hI]; simp [Int.not_lt.2 hlt2]
     simp only [↓vS,vT,shb,shv,qb,qc,cellsOf,wr,qa,simprocAttr,hp,hw2,hpl,hy,Nat.mul_one,jw,Option.map_some,hlt2]
     simp [vZ,hwf]
    ·simp only [↓vS,vT,shb,shv,qb,qc,cellsOf,wr,qa,simprocAttr,hp,hw2,hpl,hy,Nat.mul_one,jw,Option.map_some,hlt2,hw]
     refine ih (j + 1) ⟨by omega,?_⟩ (by omega) _ _ (Wk.mk _ _ [] ?_ ?_ ?_ rfl)
     ·rw [hI,hk]; simp [hx]; omega
     ·simp [vw,qk]
     ·trivial
     ·simp
 ·rw [List.drop_of_length_le (by omega),zI] at hI
  simp only [↓vS,vT,shb,shv,qb,qc,cellsOf,wr,qa,simprocAttr,hlt]
  simp [vZ,hI]
def w5:IFn:=⟨[.tmp 4],.seq (.r [.m 4 (.c (.b false))]) (.seq (.seq (.r [.m 7 (.t 0),.q 8 (.len false (.t 7)),.m 9 (.k 0)]) (.blk 0 (.loop (.seq (.r [.q 10 (.bin .lss (.t 9) (.t 8))]) (.seq (.cond (.t 10) (.skip) (.exit 0)) (.seq (.blk 1 (.seq (.r [.m 11 (.t 9),.q 12 (.iAddrS 1 (.t 7) (.t 9)),.q 13 (.load1 (.t 12)),.m 5 (.t 11),.m 6 (.t 13)]) (.seq (.r [.m 14 (.t 1),.m 15 (.t 6),⟨(some 16),.callV (.t 14) [.t 15],none⟩,.q 17 (.un .not (.t 16)),.m 18 (.t 17),.g 19 (.mov (.t 5)) 18 false,.g 20 (.bin .gtr (.t 19) (.k 0)) 18 false,.g 21 (.mov (.t 20)) 18 false,.g 22 (.mov (.t 0)) 21 true,.g 23 (.mov (.t 5)) 21 true,.g 24 (.bin .sub (.t 23) (.k 1)) 21 true,.g 25 (.iAddrS 1 (.t 22) (.t 24)) 21 true,.g 26 (.load1 (.t 25)) 21 true,.g 27 (.mov (.t 6)) 21 true,.g 28 (.bin .geq (.t 26) (.t 27)) 21 true,.g 29 (.pick (.t 21) (.t 28) (.c (.b false))) 18 false,.q 30 (.pick (.t 18) (.c (.b true)) (.t 29))]) (.cond (.t 30) (.seq (.r [.m 4 (.c (.b false))]) (.ret)) (.skip))))) (.r [.q 31 (.bin .add (.t 9) (.k 1)),.m 9 (.t 31)]))))))) (.seq (.r [.m 4 (.c (.b true))]) (.ret)))⟩
theorem qpW (hc:qm P f w5 = true) (xs:List Int) (g:Nat) (is:Int->Bool) (hg:∀ x,qg P g [.i .u32 x] (.b (is x))) (hl:xs.length<=100000):qg P f [.fz xs.length (rI .u32 xs),.fn g [] []] (.b (zI is none xs)):=by
 refine qg.mk hc (by simp [qw,clo,qk]) ?_
 simp only [w5,qh,H0,mkT,mkH,trL,vI,simprocAttr]
 simp only [↓vS,vT,shb,shv,qb,qc,cellsOf,wr,qa,simprocAttr]
 refine SL.loop (α:=Nat) (fun j=>[(0,.fz xs.length (rI .u32 xs)),(1,.fn g [] []),(7,.fz xs.length (rI .u32 xs)),(8,.i .i64 xs.length),(9,.i .i64 j)]) (fun _=>[])
  (fun j=>j<=xs.length∧zI is none xs = zI is (if j = 0 then none else xs[j - 1]?) (xs.drop j)) (fun j=>xs.length - j) 0 [] ?_ ?_ ?_ rfl ?_ ?_
 ·simp [vw,qk]
 ·trivial
 ·simp
 ·exact ⟨Nat.zero_le _,rfl⟩
 rintro j ⟨hj,hI⟩ G ih
 simp only [qh,H0,mkT,mkH,trL,vI,simprocAttr]
 by_cases hlt:j < xs.length
 ·have hx:xs[j]? = some xs[j]:=List.getElem?_eq_getElem hlt
  have hw:IntKind.wrap .i64 ((j:Int) + 1) = ((j + 1:Nat):Int):=by rw [qG (by omega) (by omega)]; omega
  rw [List.drop_eq_getElem_cons hlt,zI] at hI
  generalize hc0:xs[j] = c at hI hx
  simp only [↓vS,vT,shb,shv,qb,qc,cellsOf,wr,qa,simprocAttr,hlt,Nat.mul_one,jw,hx,Option.map_some]
  refine (hg c).sc ?_
  cases hk:is c with
  | false =>
   have hw:zI is none xs = false:=by rw [hI]; simp [hk]
   simp only [↓vS,vT,shb,shv,qb,qc,cellsOf,wr,qa,simprocAttr]
   simp [vZ,hw]
  | true =>
   by_cases h0:j = 0
   ·subst h0
    have hn:¬ (0:Int) < ((0:Nat):Int):=by decide
    simp only [↓vS,vT,shb,shv,qb,qc,cellsOf,wr,qa,simprocAttr,hn,hw]
    refine ih 1 ⟨by omega,?_⟩ (by omega) _ _ (Wk.mk _ _ [] ?_ ?_ ?_ rfl)
    ·rw [hI,hk]; simp [hx]
    ·simp [vw,qk]
     exact qG (by decide) (by decide)
    ·trivial
    ·simp
   ·have hp:(0:Int) < (j:Int):=by omega
    have hpl:j - 1 < xs.length:=by omega
    have hy:xs[j - 1]? = some xs[j - 1]:=List.getElem?_eq_getElem hpl
    have hw2:IntKind.wrap .i64 ((j:Int) - 1) = ((j - 1:Nat):Int):=by rw [qG (by omega) (by omega)]; omega
    rw [if_neg h0,hy] at hI
    by_cases hlt2:c<=xs[j - 1]
    ·have hwf:zI is none xs = false:=by rw [hI]; simp [Int.not_lt.2 hlt2]
     simp only [↓vS,vT,shb,shv,qb,qc,cellsOf,wr,qa,simprocAttr,hp,hw2,hpl,hy,Nat.mul_one,jw,Option.map_some,hlt2]
     simp [vZ,hwf]
    ·simp only [↓vS,vT,shb,shv,qb,qc,cellsOf,wr,qa,simprocAttr,hp,hw2,hpl,hy,Nat.mul_one,jw,Option.map_some,hlt2,hw]
     refine ih (j + 1) ⟨by omega,?_⟩ (by omega) _ _ (Wk.mk _ _ [] ?_ ?_ ?_ rfl)
     ·rw [hI,hk]; simp [hx]; omega
     ·simp [vw,qk]
     ·trivial
     ·simp
 ·rw [List.drop_of_length_le (by omega),zI] at hI
  simp only [↓vS,vT,shb,shv,qb,qc,cellsOf,wr,qa,simprocAttr,hlt]
  simp [vZ,hI]
def yi (n:Int):List (List UInt8 × Int)->List UInt8
 | []=>[]
 | p :: l=>if p.2 = n then p.1 else yi n l
def kM:IFn:=⟨[.tmp 4],.seq (.r [.m 4 (.c (.s []))]) (.seq (.seq (.r [.m 7 (.t 0),.q 8 (.len false (.t 7)),.m 9 (.k 0)]) (.blk 0 (.loop (.seq (.r [.q 10 (.bin .lss (.t 9) (.t 8))]) (.seq (.cond (.t 10) (.skip) (.exit 0)) (.seq (.blk 1 (.seq (.r [.q 11 (.iAddrS 2 (.t 7) (.t 9)),.q 12 (.loadN 2 (.t 11)),.q 6 (.alloc [.s [],.i .u32 0]),.u (.store 2 (.t 6) (.t 12))]) (.seq (.r [.q 13 (.fAddr 1 (.t 6)),.q 14 (.load1 (.t 13)),.m 15 (.t 1),.q 16 (.bin .eql (.t 14) (.t 15))]) (.cond (.t 16) (.seq (.r [.q 17 (.fAddr 0 (.t 6)),.q 18 (.load1 (.t 17)),.m 4 (.t 18)]) (.ret)) (.skip))))) (.r [.q 19 (.bin .add (.t 9) (.k 1)),.m 9 (.t 19)]))))))) (.seq (.r [.m 4 (.c (.s []))]) (.ret)))⟩
theorem qsf (hc:qm P f kM = true) (l:List (List UInt8 × Int)) (n:Int) (hl:l.length<=qi):qg P f [.fz l.length (l.flatMap (zV .u32)),.i .u32 n] (.s (yi n l)):=by
 refine qg.mk hc (by simp [qw,clo]) ?_
 simp only [kM,qh,H0,mkT,mkH,trL,vI,simprocAttr]
 simp only [↓vS,vT,shb,shv,qb,qc,cellsOf,wr,qa,simprocAttr]
 refine SL.loop (α:=Nat) (fun j=>[(1,.i .u32 n),(7,.fz l.length (l.flatMap (zV .u32))),(8,.i .i64 l.length),(9,.i .i64 j)]) (fun _=>[]) (fun j=>j<=l.length∧yi n l = yi n (l.drop j)) (fun j=>l.length - j) 0 [] ?_ ?_ ?_ rfl ?_ ?_
 ·simp [vw]
 ·trivial
 ·simp
 ·simp
 rintro j ⟨hj,hI⟩ G ih
 simp only [qh,H0,mkT,mkH,trL,vI,simprocAttr]
 by_cases hlt:j < l.length
 ·have hx:l[j]? = some l[j]:=List.getElem?_eq_getElem hlt
  have hw:IntKind.wrap .i64 ((j:Int) + 1) = (j:Int) + 1:=qG (by omega) (by have:=hl; simp only [qi] at this; omega)
  have he:=xl (f:=zV .u32) (m:=2) kW hx
  have hb:j * 2 + 2<=(l.flatMap (zV .u32)).length:=by rw [zW (m:=2) kW]; omega
  rw [List.drop_eq_getElem_cons hlt,yi] at hI
  simp only [↓vS,vT,shb,shv,qb,qc,cellsOf,wr,qa,simprocAttr,hlt,hb,he,zV,hw]
  split
  ·rename_i hs
   rw [hI,if_pos hs]
   simp only [vZ,and_self,true_and]
  ·rename_i hs
   rw [if_neg hs] at hI
   refine ih (j + 1) ⟨by omega,hI⟩ (by omega) _ _ (Wk.mk _ _ [] ?_ ?_ ?_ rfl)
   ·simp [vw]
   ·trivial
   ·simp
 ·simp only [↓vS,vT,shb,shv,qb,qc,cellsOf,wr,qa,simprocAttr,hlt,vZ]
  rw [List.drop_eq_nil_of_le (by omega),yi] at hI
  rw [hI]
def kn (f_names_families f_names_of_uint32:Nat):IFn:=⟨[.tmp 2],.seq (.r [.m 2 (.c (.s []))]) (.seq (.r [.l 4 f_names_families [],.q 3 (.alloc [.s [],.i .u32 0,.s [],.i .u32 0,.s [],.i .u32 0,.s [],.i .u32 0,.s [],.i .u32 0,.s [],.i .u32 0,.s [],.i .u32 0,.s [],.i .u32 0]),.u (.store 16 (.t 3) (.t 4))]) (.seq (.r [.q 5 (.slcA 8 2 (.t 3) none none none),.m 6 (.t 0),.l 7 f_names_of_uint32 [.t 5,.t 6],.m 2 (.t 7)]) (.ret)))⟩
theorem qnu {g1 g2:Nat} (hc:qm P f (kn g1 g2) = true) (h1:qg P g1 [] (.agg (qC.flatMap (zV .u32)))) (h2:∀ (l:List (List UInt8 × Int)) (n:Int),l.length<=qi->qg P g2 [.fz l.length (l.flatMap (zV .u32)),.i .u32 n] (.s (yi n l))) (n:Int):qg P f [.i .u32 n] (.s (yi n qC)):=by
 refine qg.mk hc rfl ?_
 simp only [kn,qh,H0,mkT,mkH,trL,vI,simprocAttr]
 simp only [↓vS,vT,shb,shv,qb,qc,cellsOf,wr,qa,simprocAttr]
 refine h1.sc ?_
 simp only [↓vS,vT,shb,shv,qb,qc,cellsOf,wr,qa,simprocAttr,qC,zV,List.flatMap_cons,List.flatMap_nil]
 refine (h2 qC n (by decide)).lend (vs':=[.fz 8 (qC.flatMap (zV .u32)),.i .u32 n]) ?_ rfl ?_
 ·refine .cons _ _ _ _ (.cut 2 rfl (Nat.le_refl _) ?_) (.cons _ _ _ _ (.i _ _) .nil)
  simp [vw,qC,zV]
 simp only [↓vS,vT,shb,shv,qb,qc,cellsOf,wr,qa,simprocAttr,vZ,and_self,qC]
def QE:IFn:=⟨[.tmp 2],.seq (.r [.q 1 (.box (.t 0)),.m 2 (.c (.b false))]) (.seq (.r [.q 3 (.fAddr 1 (.t 1)),.q 4 (.load1 (.t 3)),.q 5 (.bin .neq (.t 4) (.c (.i .u32 0))),.m 2 (.t 5)]) (.ret))⟩
theorem qsl (hc:qm P f QE = true) (c:GCall):qg P f [.agg (jy c)] (.b (decide (c.act≠0))):=by
 refine qg.mk hc rfl ?_
 simp only [QE,jy,qh,H0,mkT,mkH,trL,vI,simprocAttr]
 by_cases h:c.act = 0 <;>
 ·simp only [↓vS,vT,shb,shv,qb,qc,cellsOf,wr,qa,simprocAttr,h]
  simp [vZ,h]
def QF (f_arch_Name:Nat):IFn:=⟨[.tmp 2],.seq (.r [.m 2 (.c (.b false))]) (.seq (.r [.m 3 (.t 0),.l 4 f_arch_Name [.t 3],.q 5 (.bin .neq (.t 4) (.c (.s []))),.m 2 (.t 5)]) (.ret))⟩
theorem qsm {g:Nat} (hc:qm P f (QF g) = true) (hg:∀ a,qg P g [.i .i64 a] (.s (Jv a))) (a:Int):qg P f [.i .i64 a] (.b (decide (0<=a) && decide (a < 6))):=by
 refine qg.mk hc rfl ?_
 simp only [QF,qh,H0,mkT,mkH,trL,vI,simprocAttr]
 simp only [↓vS,vT,shb,shv,qb,qc,cellsOf,wr,qa,simprocAttr]
 refine (hg a).sc ?_
 have h:=qgX a
 by_cases h':Jv a = []
 ·have h2:(decide (0<=a) && decide (a < 6)) = false:=by
   have:=mt h.2 (by simpa using h')
   simp only [Bool.and_eq_false_iff,decide_eq_false_iff_not]; omega
  simp only [↓vS,vT,shb,shv,qb,qc,cellsOf,wr,qa,simprocAttr,h']
  simp [vZ,h2]
 ·have h2:=h.1 h'
  simp only [↓vS,vT,shb,shv,qb,qc,cellsOf,wr,qa,simprocAttr,h']
  simp [vZ,h2]
def ZM (n:Int):Bool:=decide (yi n qC≠[])
def QG (f_names_FamilyName:Nat):IFn:=⟨[.tmp 2],.seq (.r [.m 2 (.c (.b false))]) (.seq (.r [.m 3 (.t 0),.l 4 f_names_FamilyName [.t 3],.q 5 (.bin .neq (.t 4) (.c (.s []))),.m 2 (.t 5)]) (.ret))⟩
theorem qsn {g:Nat} (hc:qm P f (QG g) = true) (hg:∀ a,qg P g [.i .u32 a] (.s (yi a qC))) (a:Int):qg P f [.i .u32 a] (.b (ZM a)):=by
 refine qg.mk hc rfl ?_
 simp only [QG,qh,H0,mkT,mkH,trL,vI,simprocAttr]
 simp only [↓vS,vT,shb,shv,qb,qc,cellsOf,wr,qa,simprocAttr]
 refine (hg a).sc ?_
 unfold ZM
 generalize yi a qC = s
 by_cases h':s = [] <;>
 ·simp only [↓vS,vT,shb,shv,qb,qc,cellsOf,wr,qa,simprocAttr,h']
  simp [vZ,h']
def zO (f_slices_IndexFunc_api_Call_api_Call:Nat):IFn:=⟨[.tmp 4],.seq (.r [.m 4 (.c (.b false))]) (.seq (.r [.m 5 (.t 0),.m 6 (.t 1),.l 7 f_slices_IndexFunc_api_Call_api_Call [.t 5,.t 6],.q 8 (.bin .geq (.t 7) (.k 0)),.m 4 (.t 8)]) (.ret))⟩
theorem qaN {α:Type} (p:α->Bool):∀ (l:List α) (j:Nat),decide (0<=xE p l j) = l.any p
 | [],j=>by simp [xE]
 | x :: l,j=>by
  rw [xE]
  by_cases h:p x = true
  ·simp [h]
  ·rw [if_neg h,qaN p l (j + 1)]; simp [h]
theorem qhv {g:Nat} (hc:qm P f (zO g) = true) (h:Qa 2 P g) (l:List GCall) (k:Nat) (p:GCall->Bool) (hk:∀ c,qg P k [.agg (jy c)] (.b (p c))) (hl:l.length<=qi):qg P f [.fz l.length (rC l),.fn k [] []] (.b (l.any p)):=by
 refine qg.mk hc (by simp [qw,clo,qj]) ?_
 simp only [zO,qh,H0,mkT,mkH,trL,vI,simprocAttr]
 simp only [↓vS,vT,shb,shv,qb,qc,cellsOf,wr,qa,simprocAttr]
 refine (h jy p k [] [] l vh rfl rfl hl fun x _=>hk x).sc ?_
 simp only [↓vS,vT,shb,shv,qb,qc,cellsOf,wr,qa,simprocAttr]
 simp [vZ,← qaN p l 0]
def vo (f_slices_ContainsFunc_api_Call_api_Call f_policy_May_1 f_policy_rises_int f_policy_May_2 f_policy_rises_uint32 f_policy_May_3 f_fold_May f_names_Spaces:Nat):ICode:=.seq (.reg true [.m 46 (.t 3),.m 47 (.t 46),.g 48 (.mov (.t 4)) 47 true,.q 49 (.pick (.t 47) (.t 48) (.c (.b false))),.m 50 (.t 49),.g 51 (.mov (.t 5)) 50 true,.q 52 (.pick (.t 50) (.t 51) (.c (.b false))),.m 53 (.t 52),.g 54 (.mov (.t 6)) 53 true,.q 55 (.pick (.t 53) (.t 54) (.c (.b false))),.m 56 (.t 55),.g 57 (.mov (.t 7)) 56 true,.q 58 (.pick (.t 56) (.t 57) (.c (.b false))),.m 59 (.t 58),.g 60 (.fAddr 1 (.t 1)) 59 true,.g 61 (.loadN 2 (.t 60)) 59 true,⟨(some 62),.callF f_fold_May [.t 61],(some (59,true))⟩,.q 63 (.pick (.t 59) (.t 62) (.c (.b false))),.m 64 (.t 63),.g 65 (.fAddr 4 (.t 1)) 64 true,.g 66 (.loadN 2 (.t 65)) 64 true,⟨(some 67),.callF f_fold_May [.t 66],(some (64,true))⟩,.q 68 (.pick (.t 64) (.t 67) (.c (.b false))),.m 69 (.t 68),.g 70 (.fAddr 8 (.t 1)) 69 true,.g 71 (.load1 (.t 70)) 69 true,⟨(some 72),.callF f_names_Spaces [],(some (69,true))⟩,.g 73 (.bin .andNot (.t 71) (.t 72)) 69 true,.g 74 (.bin .eql (.t 73) (.c (.i .u64 0))) 69 true,.q 75 (.pick (.t 69) (.t 74) (.c (.b false))),.m 2 (.t 75)]) (.ret)
def wc (f_slices_ContainsFunc_api_Call_api_Call f_policy_May_1 f_policy_rises_int f_policy_May_2 f_policy_rises_uint32 f_policy_May_3 f_fold_May f_names_Spaces:Nat):ICode:=.seq (.r [.q 40 (.fAddr 0 (.t 1)),.q 41 (.load1 (.t 40)),.l 42 f_policy_rises_int [.t 41,(.c (.fn f_policy_May_2 [] []))],.m 6 (.t 42)]) (.seq (.r [.q 43 (.fAddr 6 (.t 1)),.q 44 (.load1 (.t 43)),.l 45 f_policy_rises_uint32 [.t 44,(.c (.fn f_policy_May_3 [] []))],.m 7 (.t 45)]) (.cut (vo f_slices_ContainsFunc_api_Call_api_Call f_policy_May_1 f_policy_rises_int f_policy_May_2 f_policy_rises_uint32 f_policy_May_3 f_fold_May f_names_Spaces)))
def wb (f_slices_ContainsFunc_api_Call_api_Call f_policy_May_1 f_policy_rises_int f_policy_May_2 f_policy_rises_uint32 f_policy_May_3 f_fold_May f_names_Spaces:Nat):ICode:=.seq (.r [.q 26 (.fAddr 7 (.t 1)),.q 27 (.load1 (.t 26)),.q 28 (.bin .leq (.t 27) (.c (.i .u8 2))),.m 29 (.t 28),.g 30 (.fAddr 7 (.t 1)) 29 true,.g 31 (.load1 (.t 30)) 29 true,.g 32 (.bin .neq (.t 31) (.c (.i .u8 0))) 29 true,.g 33 (.mov (.t 32)) 29 true,.g 34 (.fAddr 6 (.t 1)) 33 false,.g 35 (.load1 (.t 34)) 33 false,.g 36 (.len false (.t 35)) 33 false,.g 37 (.bin .eql (.t 36) (.k 0)) 33 false,.g 38 (.pick (.t 33) (.c (.b true)) (.t 37)) 29 true,.q 39 (.pick (.t 29) (.t 38) (.c (.b false))),.m 5 (.t 39)]) (.cut (wc f_slices_ContainsFunc_api_Call_api_Call f_policy_May_1 f_policy_rises_int f_policy_May_2 f_policy_rises_uint32 f_policy_May_3 f_fold_May f_names_Spaces))
def Z1 (f_slices_ContainsFunc_api_Call_api_Call f_policy_May_1 f_policy_rises_int f_policy_May_2 f_policy_rises_uint32 f_policy_May_3 f_fold_May f_names_Spaces:Nat):IFn:=⟨[.tmp 2],.seq (.r [.q 1 (.box (.t 0)),.m 2 (.c (.b false))]) (.seq (.r [.q 8 (.fAddr 4 (.t 1)),.q 9 (.fAddr 1 (.t 8)),.q 10 (.load1 (.t 9)),.l 11 f_slices_ContainsFunc_api_Call_api_Call [.t 10,(.c (.fn f_policy_May_1 [] []))],.q 12 (.un .not (.t 11)),.m 3 (.t 12)]) (.seq (.r [.q 13 (.fAddr 3 (.t 1)),.q 14 (.load1 (.t 13)),.q 15 (.bin .eql (.t 14) (.c (.i .u32 2147483648))),.m 16 (.t 15),.g 17 (.fAddr 3 (.t 1)) 16 false,.g 18 (.load1 (.t 17)) 16 false,.g 19 (.bin .geq (.t 18) (.c (.i .u32 327680))) 16 false,.g 20 (.mov (.t 19)) 16 false,.g 21 (.fAddr 3 (.t 1)) 20 true,.g 22 (.load1 (.t 21)) 20 true,.g 23 (.bin .leq (.t 22) (.c (.i .u32 331775))) 20 true,.g 24 (.pick (.t 20) (.t 23) (.c (.b false))) 16 false,.q 25 (.pick (.t 16) (.c (.b true)) (.t 24)),.m 4 (.t 25)]) (.cut (wb f_slices_ContainsFunc_api_Call_api_Call f_policy_May_1 f_policy_rises_int f_policy_May_2 f_policy_rises_uint32 f_policy_May_3 f_fold_May f_names_Spaces))))⟩
noncomputable def yg (p:Pol):Bool:=zM p.filter && zM p.log && decide (kZ .u64 p.spaces 2114060416 = 0)
theorem qk5 {g1 g2 g3 g4 g5 g6 g7 g8:Nat} (h7:∀ l:GList,l.calls.length<=100000->qg P g7 [.agg (qE l)] (.b (zM l)))
  (h8:qg P g8 [] (.i .u64 2114060416)) (p:Pol) (hp:PolOk p) (o d m a fm:Bool) {t':Tr AV} {h':Hp} (hw:Wk 0 t' h' (mkT [(1,.ptr 0 0),(2,.b false),(3,.b o),(4,.b d),(5,.b m),(6,.b a),(7,.b fm)]) (mkH 0 [.cells 0 true false (qq p)])) :
  S P 0 (vo g1 g2 g3 g4 g5 g6 g7 g8) (jz [.tmp 2] fun v' h'=>Frz h' v' (.b (o && d && m && a && fm && yg p))) t' h':=by
 have hcc:=hp.c
 have hl:=hp.l
 refine S.weak hw (qA ?_)
 simp only [vo,qq,qh,H0,mkT,mkH,trL,vI,simprocAttr]
 simp only [↓vS,vT,shb,shv,qb,qc,cellsOf,wr,qa,simprocAttr]
 refine zS ?_
 cases o
 ·simp only [↓vS,vT,shb,shv,qb,qc,cellsOf,wr,qa,simprocAttr]
  simp [vZ]
 cases d
 ·simp only [↓vS,vT,shb,shv,qb,qc,cellsOf,wr,qa,simprocAttr]
  simp [vZ]
 cases m
 ·simp only [↓vS,vT,shb,shv,qb,qc,cellsOf,wr,qa,simprocAttr]
  simp [vZ]
 cases a
 ·simp only [↓vS,vT,shb,shv,qb,qc,cellsOf,wr,qa,simprocAttr]
  simp [vZ]
 cases fm
 ·simp only [↓vS,vT,shb,shv,qb,qc,cellsOf,wr,qa,simprocAttr]
  simp [vZ]
 simp only [↓vS,vT,shb,shv,qb,qc,cellsOf,wr,qa,simprocAttr]
 refine (h7 p.filter (by omega)).pc ?_
 cases hF:zM p.filter
 ·simp only [↓vS,vT,shb,shv,qb,qc,cellsOf,wr,qa,simprocAttr]
  simp [vZ,yg,hF]
 simp only [↓vS,vT,shb,shv,qb,qc,cellsOf,wr,qa,simprocAttr]
 refine (h7 p.log (by omega)).pc ?_
 cases hL:zM p.log
 ·simp only [↓vS,vT,shb,shv,qb,qc,cellsOf,wr,qa,simprocAttr]
  simp [vZ,yg,hF,hL]
 simp only [↓vS,vT,shb,shv,qb,qc,cellsOf,wr,qa,simprocAttr]
 refine h8.pc ?_
 simp only [↓vS,vT,shb,shv,qb,qc,cellsOf,wr,qa,simprocAttr]
 simp [vZ,yg,hF,hL]
theorem qk4 {g1 g2 g3 g4 g5 g6 g7 g8:Nat} (h3:∀ (xs:List Int) (g:Nat) (is:Int->Bool),(∀ x,qg P g [.i .i64 x] (.b (is x)))->xs.length<=100000->qg P g3 [.fz xs.length (rI .i64 xs),.fn g [] []] (.b (zI is none xs)))
  (h4:∀ a,qg P g4 [.i .i64 a] (.b (decide (0<=a) && decide (a < 6))))
  (h5:∀ (xs:List Int) (g:Nat) (is:Int->Bool),(∀ x,qg P g [.i .u32 x] (.b (is x)))->xs.length<=100000->qg P g5 [.fz xs.length (rI .u32 xs),.fn g [] []] (.b (zI is none xs)))
  (h6:∀ a,qg P g6 [.i .u32 a] (.b (ZM a)))
  (h7:∀ l:GList,l.calls.length<=100000->qg P g7 [.agg (qE l)] (.b (zM l)))
  (h8:qg P g8 [] (.i .u64 2114060416)) (p:Pol) (hp:PolOk p) (o d m:Bool) {t':Tr AV} {h':Hp} (hw:Wk 0 t' h' (mkT [(1,.ptr 0 0),(2,.b false),(3,.b o),(4,.b d),(5,.b m)]) (mkH 0 [.cells 0 true false (qq p)])) :
  S P 0 (wc g1 g2 g3 g4 g5 g6 g7 g8) (jz [.tmp 2] fun v' h'=>Frz h' v' (.b (o && d && m && zI (fun a=>decide (0<=a) && decide (a < 6)) none p.arches && zI ZM none p.fams && yg p))) t' h':=by
 have ha:=hp.a
 have hf:=hp.f
 refine S.weak hw (qA ?_)
 simp only [wc,qq,qh,H0,mkT,mkH,trL,vI,simprocAttr]
 simp only [↓vS,vT,shb,shv,qb,qc,cellsOf,wr,qa,simprocAttr]
 refine (h3 p.arches g4 _ h4 (by omega)).sc ?_
 simp only [↓vS,vT,shb,shv,qb,qc,cellsOf,wr,qa,simprocAttr]
 refine (h5 p.fams g6 _ h6 (by omega)).sc ?_
 simp only [↓vS,vT,shb,shv,qb,qc,cellsOf,wr,qa,simprocAttr]
 refine qk5 h7 h8 p hp o d m _ _ (Wk.mk _ _ [0] ?_ ?_ ?_ rfl)
 ·simp [vw]
 ·simp [vw,qq,qk,qj]
 ·simp
def JR (p:Pol):Bool:=decide (p.fmode<=2) && (decide (p.fmode≠0) || decide (p.fams = []))
theorem qk3 {g1 g2 g3 g4 g5 g6 g7 g8:Nat} (h3:∀ (xs:List Int) (g:Nat) (is:Int->Bool),(∀ x,qg P g [.i .i64 x] (.b (is x)))->xs.length<=100000->qg P g3 [.fz xs.length (rI .i64 xs),.fn g [] []] (.b (zI is none xs)))
  (h4:∀ a,qg P g4 [.i .i64 a] (.b (decide (0<=a) && decide (a < 6))))
  (h5:∀ (xs:List Int) (g:Nat) (is:Int->Bool),(∀ x,qg P g [.i .u32 x] (.b (is x)))->xs.length<=100000->qg P g5 [.fz xs.length (rI .u32 xs),.fn g [] []] (.b (zI is none xs)))
  (h6:∀ a,qg P g6 [.i .u32 a] (.b (ZM a)))
  (h7:∀ l:GList,l.calls.length<=100000->qg P g7 [.agg (qE l)] (.b (zM l)))
  (h8:qg P g8 [] (.i .u64 2114060416)) (p:Pol) (hp:PolOk p) (o d:Bool) {t':Tr AV} {h':Hp} (hw:Wk 0 t' h' (mkT [(1,.ptr 0 0),(2,.b false),(3,.b o),(4,.b d)]) (mkH 0 [.cells 0 true false (qq p)])) :
  S P 0 (wb g1 g2 g3 g4 g5 g6 g7 g8) (jz [.tmp 2] fun v' h'=>Frz h' v' (.b (o && d && JR p && zI (fun a=>decide (0<=a) && decide (a < 6)) none p.arches && zI ZM none p.fams && yg p))) t' h':=by
 refine S.weak hw (qA ?_)
 simp only [wb,qq,qh,H0,mkT,mkH,trL,vI,simprocAttr]
 have go:∀ m,m = JR p->∀ {t':Tr AV} {h':Hp},Wk 0 t' h' (mkT [(1,.ptr 0 0),(2,.b false),(3,.b o),(4,.b d),(5,.b m)]) (mkH 0 [.cells 0 true false (qq p)])->S P 0 (wc g1 g2 g3 g4 g5 g6 g7 g8) (jz [.tmp 2] fun v' h'=>Frz h' v' (.b (o && d && JR p && zI (fun a=>decide (0<=a) && decide (a < 6)) none p.arches && zI ZM none p.fams && yg p))) t' h':=by
  rintro m rfl t' h' hw
  exact qk4 h3 h4 h5 h6 h7 h8 p hp o d _ hw
 by_cases m1:p.fmode<=2
 ·by_cases m2:p.fmode = 0
  ·by_cases m3:p.fams = []
   ·have h0:(p.fams.length:Int) = 0:=by rw [m3]; rfl
    simp only [↓vS,vT,shb,shv,qb,qc,cellsOf,wr,qa,simprocAttr,m1,m2,h0]
    refine go true (by simp [JR,m1,m2,m3]) (Wk.mk _ _ [0] ?_ ?_ ?_ rfl)
    ·simp [vw]
    ·simp [vw,qq,qk,qj,m2]
    ·simp
   ·have h0:((p.fams.length:Int) = 0) = False:=eq_false (by have:=List.length_pos_iff.2 m3; omega)
    simp only [↓vS,vT,shb,shv,qb,qc,cellsOf,wr,qa,simprocAttr,m1,m2,h0]
    refine go false (by simp [JR,m1,m2,m3]) (Wk.mk _ _ [0] ?_ ?_ ?_ rfl)
    ·simp [vw]
    ·simp [vw,qq,qk,qj,m2]
    ·simp
  ·simp only [↓vS,vT,shb,shv,qb,qc,cellsOf,wr,qa,simprocAttr,m1,m2]
   refine go true (by simp [JR,m1,m2]) (Wk.mk _ _ [0] ?_ ?_ ?_ rfl)
   ·simp [vw]
   ·simp [vw,qq,qk,qj]
   ·simp
 ·simp only [↓vS,vT,shb,shv,qb,qc,cellsOf,wr,qa,simprocAttr,m1]
  refine go false (by simp [JR,m1]) (Wk.mk _ _ [0] ?_ ?_ ?_ rfl)
  ·simp [vw]
  ·simp [vw,qq,qk,qj]
  ·simp
def XE (n:Int):Bool:=decide (n = 2147483648) || (decide (327680<=n) && decide (n<=331775))
noncomputable def qq5 (p:Pol):Bool:=!(p.log.calls.any fun c=>decide (c.act≠0)) && XE p.deny && JR p && zI (fun a=>decide (0<=a) && decide (a < 6)) none p.arches && zI ZM none p.fams && yg p
theorem qpO {g1 g2 g3 g4 g5 g6 g7 g8:Nat} (hc:qm P f (Z1 g1 g2 g3 g4 g5 g6 g7 g8) = true)
  (h1:∀ (l:List GCall) (k:Nat) (p:GCall->Bool),(∀ c,qg P k [.agg (jy c)] (.b (p c)))->l.length<=qi->qg P g1 [.fz l.length (rC l),.fn k [] []] (.b (l.any p)))
  (h2:∀ c,qg P g2 [.agg (jy c)] (.b (decide (c.act≠0))))
  (h3:∀ (xs:List Int) (g:Nat) (is:Int->Bool),(∀ x,qg P g [.i .i64 x] (.b (is x)))->xs.length<=100000->qg P g3 [.fz xs.length (rI .i64 xs),.fn g [] []] (.b (zI is none xs)))
  (h4:∀ a,qg P g4 [.i .i64 a] (.b (decide (0<=a) && decide (a < 6))))
  (h5:∀ (xs:List Int) (g:Nat) (is:Int->Bool),(∀ x,qg P g [.i .u32 x] (.b (is x)))->xs.length<=100000->qg P g5 [.fz xs.length (rI .u32 xs),.fn g [] []] (.b (zI is none xs)))
  (h6:∀ a,qg P g6 [.i .u32 a] (.b (ZM a)))
  (h7:∀ l:GList,l.calls.length<=100000->qg P g7 [.agg (qE l)] (.b (zM l)))
  (h8:qg P g8 [] (.i .u64 2114060416)) (p:Pol) (hp:PolOk p):qg P f [.agg (qq p)] (.b (qq5 p)):=by
 have hl:=hp.l
 refine qg.mk hc rfl ?_
 have go:∀ d,d = XE p.deny->∀ {t':Tr AV} {h':Hp},Wk 0 t' h' (mkT [(1,.ptr 0 0),(2,.b false),(3,.b (!(p.log.calls.any fun c=>decide (c.act≠0)))),(4,.b d)]) (mkH 0 [.cells 0 true false (qq p)])->S P 0 (wb g1 g2 g3 g4 g5 g6 g7 g8) (jz [.tmp 2] fun v' h'=>Frz h' v' (.b (qq5 p))) t' h':=by
  rintro d rfl t' h' hw
  exact qk3 h3 h4 h5 h6 h7 h8 p hp _ _ hw
 simp only [Z1,qq,qh,H0,mkT,mkH,trL,vI,simprocAttr]
 simp only [↓vS,vT,shb,shv,qb,qc,cellsOf,wr,qa,simprocAttr]
 refine (h1 p.log.calls g2 _ h2 (by simp only [qi]; omega)).sc ?_
 by_cases d1:p.deny = 2147483648
 ·simp only [↓vS,vT,shb,shv,qb,qc,cellsOf,wr,qa,simprocAttr,d1]
  refine go true (by simp [XE,d1]) (Wk.mk _ _ [0] ?_ ?_ ?_ rfl)
  ·simp [vw]
  ·simp [vw,qq,qk,qj,d1]
  ·simp
 by_cases d2:327680<=p.deny
 ·by_cases d3:p.deny<=331775
  ·simp only [↓vS,vT,shb,shv,qb,qc,cellsOf,wr,qa,simprocAttr,d1,d2,d3]
   refine go true (by simp [XE,d1,d2,d3]) (Wk.mk _ _ [0] ?_ ?_ ?_ rfl)
   ·simp [vw]
   ·simp [vw,qq,qk,qj]
   ·simp
  ·simp only [↓vS,vT,shb,shv,qb,qc,cellsOf,wr,qa,simprocAttr,d1,d2,d3]
   refine go false (by simp [XE,d1,d2,d3]) (Wk.mk _ _ [0] ?_ ?_ ?_ rfl)
   ·simp [vw]
   ·simp [vw,qq,qk,qj]
   ·simp
 ·simp only [↓vS,vT,shb,shv,qb,qc,cellsOf,wr,qa,simprocAttr,d1,d2]
  refine go false (by simp [XE,d1,d2]) (Wk.mk _ _ [0] ?_ ?_ ?_ rfl)
  ·simp [vw]
  ·simp [vw,qq,qk,qj]
  ·simp
end Go.Kc
end
section
/- What the document's May of a policy answers. Condition: the functions' texts are these. -/
namespace Go.Kc
variable {P:Program} {f:Nat}
structure PolR (p:Pol):Prop where
 fams:∀ x ∈ p.fams,0<=x∧x<=4294967295
 deny:0<=p.deny∧p.deny<=4294967295
 spaces:0<=p.spaces∧p.spaces < 18446744073709551616
 filter:Rng p.filter.calls
 log:Rng p.log.calls
section
variable {g1 g2 g3 g4:Nat}
end
end Go.Kc
end
section
/- Tests, rules; numbers of calls; the helpers of lower. Condition: the functions' texts are these. -/
namespace Go.Kc
variable {P:Program} {f:Nat}
structure GTest where
 arg:Int
 qf9:Int
 val:Int
 act:Int
structure GRule where
 nr:Int
 tests:List GTest
 act:Int
structure GFil where
 arch:Int
 rules:List GRule
 dflt:Int
section
variable {l m:List GTest} {j:Nat}
end
section
variable {l m:List GRule} {j:Nat}
end
end Go.Kc
end
section
/- The helpers of lower. Condition: the functions' texts are these. -/
namespace Go.Kc
variable {P:Program} {f:Nat}
end Go.Kc
end
section
/- Actions that are known, rules and filters that may be, a call's name by its number. Condition: the functions' texts are these. -/
namespace Go.Kc
variable {P:Program} {f:Nat}
end Go.Kc
end
section
/- Rules and filters that may be; a call's name by its number. Condition: the functions' texts are these. -/
namespace Go.Kc
variable {P:Program} {f:Nat}
end Go.Kc
end
section
/- The plain law of LowerMay: lower's filters may be, their numbers have names. No condition. -/
namespace Go.Kc
end Go.Kc
end
section
/- LowerAlone: what the law answers (first its end). Condition: the functions' texts are these. -/
namespace Go.Kc
variable {P:Program} {f:Nat}
section
variable {g1 g2 g3 g4 g5:Nat}
end
end Go.Kc
end
section
/- What assignments come to, one behind the other: it may be. No condition. -/
namespace Go.Kc
def Zf:List UInt8:=[83,101,114,118,105,99,101]
structure PMay (p:Pol):Prop where
 own:∀ c ∈ p.log.calls,c.act = 0
 deny:XE p.deny = true
 mode:p.fmode<=2∧(p.fmode≠0∨p.fams = [])
 ar:∀ a ∈ p.arches,0<=a∧a < 6
 ap:p.arches.Pairwise (· < ·)
 fr:∀ n ∈ p.fams,ZM n = true
 fp:p.fams.Pairwise (· < ·)
 fil:zM p.filter = true
 log:zM p.log = true
 sp:kZ .u64 p.spaces 2114060416 = 0
structure PI (p:Pol):Prop where
 may:PMay p
 f0:0<=p.filter.mode
 l0:0<=p.log.mode
 m0:0<=p.fmode
 s0:0<=p.spaces∧p.spaces < 18446744073709551616
theorem qaY {l:List Int} (h:l.Pairwise (· < ·)):l.Nodup:=h.imp fun h e=>by omega
theorem qhQ {n:Int} (h:ZM n = true):n ∈ qC.map (·.2):=by
 unfold ZM at h
 have h':yi n qC≠[]:=by simpa using h
 have:∀ (t:List (List UInt8 × Int)),yi n t≠[]->n ∈ t.map (·.2):=by
  intro t
  induction t with
  | nil=>intro h; exact absurd rfl h
  | cons x t ih =>
   intro h
   unfold yi at h
   split at h
   ·rename_i e; simp [e]
   ·exact List.mem_cons_of_mem _ (ih h)
 exact this _ h'
theorem qgY {a:Int} (h:0<=a∧a < 6):a ∈ ([0,1,2,3,4,5]:List Int):=by
 have:a = 0∨a = 1∨a = 2∨a = 3∨a = 4∨a = 5:=by omega
 simpa using this
theorem PMay.lens {p:Pol} (h:PMay p):p.arches.length<=6∧p.fams.length<=8∧p.filter.calls.length<=40∧p.log.calls.length<=40 :=
 ⟨ZD (t:=[0,1,2,3,4,5]) (qaY h.ap) fun x hx=>qgY (h.ar x hx),ZD (t:=qC.map (·.2)) (qaY h.fp) fun x hx=>qhQ (h.fr x hx),qal h.fil,qal h.log⟩
theorem PI.ok {p:Pol} (h:PI p):PolOk p:=by
 obtain ⟨h1,h2,h3,h4⟩:=h.may.lens
 exact ⟨by omega,by omega,by omega,by omega⟩
def Jl:Pol:={ yZ with deny:=2147483648 }
theorem PI.new:PI Jl:=by
 refine ⟨⟨?_,?_,?_,?_,?_,?_,?_,?_,?_,?_⟩,?_,?_,?_,?_⟩
 ·intro c hc; simp [Jl,yZ] at hc
 ·decide
 ·exact ⟨by decide,.inr rfl⟩
 ·intro c hc; simp [Jl,yZ] at hc
 ·exact List.Pairwise.nil
 ·intro c hc; simp [Jl,yZ] at hc
 ·exact List.Pairwise.nil
 ·rfl
 ·rfl
 ·decide
 ·decide
 ·decide
 ·decide
 ·decide
theorem qgq {l:GList} (hm:zM l = true) {s:List UInt8} (h:∀ c ∈ l.calls,c.act = 0):∀ c ∈ (XT l s 0).calls,c.act = 0:=by
 intro c hc
 unfold XT at hc
 rw [if_pos hm] at hc
 rcases qeX ((jB l).1 hm).2.2 hc with rfl | hc
 ·rfl
 ·exact h c hc
theorem qet {l:GList} {s:List UInt8} (h:∀ c ∈ l.calls,c.act = 0):∀ c ∈ (yp l s).calls,c.act = 0:=by
 intro c hc
 unfold yp at hc
 split at hc
 ·exact h c (List.mem_filter.1 hc).1
 ·exact h c hc
theorem JF:∀ {os:List (List UInt8 × Option Int)} {l:GList},zM l = true->l.mode≠0->(∀ o ∈ os,okO o)->(∀ o ∈ os,o.2 = none∨o.2 = some 0)->(∀ c ∈ l.calls,c.act = 0)->∀ c ∈ (os.foldl kX l).calls,c.act = 0
 | [],_,_,_,_,_,h=>h
 | o :: os,l,hm,h0,hk,ho,h=>by
  rw [List.foldl_cons]
  obtain ⟨k1,k2,_⟩:=qbV hm h0 (hk o (by simp))
  refine JF k1 (by rw [k2]; exact h0) (fun x hx=>hk x (by simp [hx])) (fun x hx=>ho x (by simp [hx])) ?_
  unfold kX
  rcases ho o (by simp) with e | e
  ·rw [e]; exact qet h
  ·rw [e]; exact qgq hm h
variable {E:List UInt8->List (List UInt8) × Int}
theorem qef (t:Bool) (mode:Int) (w:List UInt8):∀ o ∈ qdo E false t mode w,o.2 = none∨o.2 = some 0:=by
 intro o ho
 unfold qdo at ho
 split at ho
 ·simp at ho
 split at ho
 ·simp at ho
 ·obtain ⟨n,_,rfl⟩:=List.mem_map.1 ho
  simp only [Bool.false_eq_true,false_and,and_false,if_false]
  split <;> split <;> simp
theorem qdD (hE:vx E) {l:GList} (h:zM l = true) (v:List UInt8) (ho:∀ c ∈ l.calls,c.act = 0):∀ c ∈ (zQ E l v false).1.calls,c.act = 0:=by
 by_cases hw:qn v = []
 ·rw [qa8 h false hw]; intro c hc; simp at hc
 rw [qa7 h hw]
 refine JF (qdn h _) (Jj _ _) (fun o hx=>?_) (fun o hx=>?_) ho
 ·obtain ⟨w,_,hw2⟩:=List.mem_flatMap.1 hx
  exact qe1 hE _ _ _ w o hw2
 ·obtain ⟨w,_,hw2⟩:=List.mem_flatMap.1 hx
  exact qef _ _ w o hw2
theorem JU {l:GList} (h:zM l = true) (v:List UInt8) (fl:Bool) (h0:0<=l.mode):0<=(zQ E l v fl).1.mode:=by
 by_cases hw:qn v = []
 ·rw [qa8 h fl hw]; exact Int.le_refl 0
 ·rw [qes h fl hw]
  unfold JS
  split
  ·split <;> decide
  ·exact h0
theorem qjc (hE:vx E) {p:Pol} (h:PI p) (k v:List UInt8):PI (kw E p k v).1:=by
 unfold kw
 split
 ·exact ⟨{ h.may with fil:=qbU hE h.may.fil v true },JU h.may.fil v true h.f0,h.l0,h.m0,h.s0⟩
 split
 ·exact ⟨{ h.may with log:=qbU hE h.may.log v false,own:=qdD hE h.may.log v h.may.own },h.f0,JU h.may.log v false h.l0,h.m0,h.s0⟩
 split
 ·split
  ·rename_i hz
   refine ⟨{ h.may with deny:=?_ },h.f0,h.l0,h.m0,h.s0⟩
   show XE (k7 v).1 = true
   unfold k7 at hz ⊢
   split
   ·decide
   ·rename_i hk
    rw [if_neg hk] at hz
    split
    ·obtain ⟨q0,q1,_⟩:=yL v
     unfold XE
     simp only [Bool.or_eq_true,Bool.and_eq_true,decide_eq_true_eq]
     right; omega
    ·rename_i hk2; rw [if_neg hk2] at hz; exact absurd hz (by decide)
  ·exact h
 ·exact h
theorem qbX {l:List Int} {n x:Int} {is:Bool} (h:x ∈ jl l n is):x = n∨x ∈ l:=by
 unfold jl at h
 dsimp only at h
 split at h
 ·rcases List.mem_append.1 h with h | h
  ·exact .inr (List.mem_filter.1 (List.mem_of_mem_take h)).1
  ·rcases List.mem_cons.1 h with h | h
   ·exact .inl h
   ·exact .inr (List.mem_filter.1 (List.mem_of_mem_drop h)).1
 ·exact .inr (List.mem_filter.1 h).1
theorem qft {w:List UInt8} (h:(jx w).2 = 0):0<=(jx w).1∧(jx w).1 < 6:=by
 have idx:∀ (q:List UInt8 × Int->Bool) (t:List (List UInt8 × Int)) (j:Nat),xE q t j = -1∨((j:Int)<=xE q t j∧xE q t j < j + t.length):=by
  intro q t
  induction t with
  | nil=>intro j; left; rfl
  | cons x t ih =>
   intro j
   unfold xE
   split
   ·right; simp
    omega
   ·rcases ih (j + 1) with h | ⟨h1,h2⟩
    ·exact .inl h
    ·right; simp at h1 h2 ⊢; omega
 unfold jx at h ⊢
 split at h
 ·rename_i e; rw [if_pos e]; decide
 ·rename_i e
  rw [if_neg e]
  split at h
  ·exact absurd h (by decide)
  ·rename_i e2
   rw [if_neg e2]
   have hl:zJ.length = 6:=rfl
   rcases idx (fun x=>decide (x.1 = w)) zJ 0 with h | h
   ·rw [h] at e2; exact absurd (by decide) e2
   ·rw [hl] at h
    simp at h ⊢; omega
theorem Xx:∀ (ws:List (List UInt8)) (s:List Int × List (Int × List UInt8)),(∀ x ∈ s.1,0<=x∧x < 6)->∀ x ∈ (ws.foldl zt s).1,0<=x∧x < 6
 | [],_,h=>h
 | w :: ws,s,h=>by
  rw [List.foldl_cons]
  refine Xx ws _ ?_
  unfold zt
  split
  ·rename_i hz
   intro x hx
   rcases qbX (show x ∈ jl s.1 (jx w).1 true from hx) with rfl | hx
   ·exact qft hz
   ·exact h x hx
  ·exact h
theorem qd1 {w:List UInt8} (h:(XG w).2 = 0):ZM (XG w).1 = true:=by
 have f:∀ t:List (List UInt8 × Int),(xd w 180 t).2 = 0->(xd w 180 t).1 ∈ t.map (·.2):=by
  intro t
  induction t with
  | nil=>intro h; exact absurd (show (180:Int) = 0 from h) (by decide)
  | cons x t ih =>
   intro h
   unfold xd at h ⊢
   split
   ·simp
   ·rename_i e; rw [if_neg e] at h; exact List.mem_cons_of_mem _ (ih h)
 have all:∀ n ∈ qC.map (·.2),ZM n = true:=by decide +kernel
 exact all _ (f _ h)
theorem JC (b:Bool):∀ (ws:List (List UInt8)) (s:List Int × List (Int × List UInt8)),(∀ x ∈ s.1,ZM x = true)->∀ x ∈ (ws.foldl (xC b) s).1,ZM x = true
 | [],_,h=>h
 | w :: ws,s,h=>by
  rw [List.foldl_cons]
  refine JC b ws _ ?_
  unfold xC
  split
  ·rename_i hz
   intro x hx
   rcases qbX hx with rfl | hx
   ·exact qd1 hz
   ·exact h x hx
  ·exact h
theorem qfg (q:Nat) (h:q < 18446744073709551616):IntKind.wrap .u64 (q:Int) = q:=qcF (by omega) (by omega)
theorem qdX (a b:Int):∃ q:Nat,kZ .u64 a b = q∧q < 18446744073709551616∧q = (BitVec.ofInt 64 a &&& ~~~ (BitVec.ofInt 64 b)).toNat:=by
 refine ⟨(BitVec.ofInt 64 a &&& ~~~ (BitVec.ofInt 64 b)).toNat,?_,(BitVec.ofInt 64 a &&& ~~~ (BitVec.ofInt 64 b)).isLt,rfl⟩
 exact qfg _ (BitVec.isLt _)
theorem qmo (a b:Int):∃ q:Nat,orI .u64 a b = q∧q < 18446744073709551616∧q = (BitVec.ofInt 64 a ||| BitVec.ofInt 64 b).toNat:=by
 refine ⟨(BitVec.ofInt 64 a ||| BitVec.ofInt 64 b).toNat,?_,(BitVec.ofInt 64 a ||| BitVec.ofInt 64 b).isLt,rfl⟩
 exact qfg _ (BitVec.isLt _)
theorem qbL (v:BitVec 64):BitVec.ofInt 64 ((v.toNat:Nat):Int) = v:=by
 rw [BitVec.ofInt_natCast,BitVec.ofNat_toNat,BitVec.setWidth_eq]
theorem XD (a b:Int):kZ .u64 a b = 0↔BitVec.ofInt 64 a &&& ~~~ (BitVec.ofInt 64 b) = 0#64:=by
 obtain ⟨q,h1,_,h3⟩:=qdX a b
 rw [h1]
 constructor
 ·intro h
  have:q = 0:=by omega
  rw [this] at h3
  exact BitVec.eq_of_toNat_eq (by rw [← h3]; rfl)
 ·intro h
  rw [h] at h3
  simp at h3; omega
theorem qnf {a b m:Int} (ha:kZ .u64 a m = 0) (hb:kZ .u64 b m = 0):kZ .u64 (orI .u64 a b) m = 0:=by
 rw [XD] at ha hb ⊢
 obtain ⟨q,h1,_,h3⟩:=qmo a b
 rw [h1,h3,qbL]
 have:∀ x y z:BitVec 64,(x ||| y) &&& z = (x &&& z) ||| (y &&& z):=by
  intro x y z; ext i hi; simp [Bool.and_or_distrib_right]
 rw [this,ha,hb]; rfl
theorem qkb {a m:Int}:kZ .u64 (kZ .u64 m a) m = 0:=by
 rw [XD]
 obtain ⟨q,h1,_,h3⟩:=qdX m a
 rw [h1,h3,qbL]
 ext i hi
 simp
 intro h1 h2; simp [h1]
theorem qoW (w:List UInt8):kZ .u64 (spM w).1 2114060416 = 0:=by
 have f:∀ t:List (List UInt8 × Int),(xd w 181 t).1 = 0∨(xd w 181 t).1 ∈ t.map (·.2):=by
  intro t
  induction t with
  | nil=>exact .inl rfl
  | cons x t ih =>
   unfold xd
   split
   ·right; simp
   ·rcases ih with h | h
    ·exact .inl h
    ·exact .inr (List.mem_cons_of_mem _ h)
 have all:∀ n ∈ qY.map (·.2),kZ .u64 n 2114060416 = 0:=by decide +kernel
 rcases f qY with h | h
 ·show kZ .u64 (xd w 181 qY).1 2114060416 = 0
  rw [h]; decide
 ·exact all _ h
theorem qbQ:∀ (ws:List (List UInt8)) (s:Int × List (Int × List UInt8)),kZ .u64 s.1 2114060416 = 0->(0<=s.1∧s.1 < 18446744073709551616)->kZ .u64 (ws.foldl jj s).1 2114060416 = 0∧(0<=(ws.foldl jj s).1∧(ws.foldl jj s).1 < 18446744073709551616)
 | [],_,h,h2=>⟨h,h2⟩
 | w :: ws,s,h,_=>by
  rw [List.foldl_cons]
  obtain ⟨q,h1,h2,_⟩:=qmo s.1 (spM w).1
  refine qbQ ws _ (qnf h (qoW w)) ?_
  show 0<=orI .u64 s.1 (spM w).1∧orI .u64 s.1 (spM w).1 < 18446744073709551616
  rw [h1]; omega
theorem XY (p:Pol) (h:PI p) (a b c d:Bool):PI { p with we:=a,pe:=b,rt:=c,np:=d }:=⟨⟨h.may.own,h.may.deny,h.may.mode,h.may.ar,h.may.ap,h.may.fr,h.may.fp,h.may.fil,h.may.log,h.may.sp⟩,h.f0,h.l0,h.m0,h.s0⟩
theorem qdR {p:Pol} (h:PI p) (v:List UInt8):PI (xG p v).1:=by
 unfold xG
 dsimp only
 have h1:∀ x ∈ (if qn v = [] then ([]:List Int) else p.arches),0<=x∧x < 6:=by
  split
  ·intro x hx; simp at hx
  ·exact h.may.ar
 have h2:(if qn v = [] then ([]:List Int) else p.arches).Pairwise (· < ·):=by
  split
  ·exact List.Pairwise.nil
  ·exact h.may.ap
 refine ⟨{ h.may with ar:=?_,ap:=?_ },h.f0,h.l0,h.m0,h.s0⟩
 ·exact Xx _ _ h1
 ·exact qax _ _ h2
theorem qcd {p:Pol} (h:PI p) (v:List UInt8):PI (zg p v).1:=by
 unfold zg
 split
 ·refine ⟨{ h.may with mode:=⟨show (0:Int)<=2 by decide,.inr rfl⟩,fr:=fun x hx=>?_,fp:=List.Pairwise.nil },h.f0,h.l0,Int.le_refl 0,h.s0⟩
  simp at hx
 split
 ·refine ⟨{ h.may with mode:=⟨show (1:Int)<=2 by decide,.inr rfl⟩,fr:=fun x hx=>?_,fp:=List.Pairwise.nil },h.f0,h.l0,show (0:Int)<=1 by decide,h.s0⟩
  simp at hx
 ·dsimp only
  have hm:0<=kq p.fmode (zb v).2∧kq p.fmode (zb v).2<=2∧kq p.fmode (zb v).2≠0:=by
   have:=h.m0
   have:=h.may.mode.1
   unfold kq
   split
   ·split <;> decide
   ·refine ⟨by omega,by omega,by assumption⟩
  refine ⟨{ h.may with mode:=⟨hm.2.1,.inl hm.2.2⟩,fr:=?_,fp:=?_ },h.f0,h.l0,hm.1,h.s0⟩
  ·exact JC _ _ _ h.may.fr
  ·exact qbi _ _ _ h.may.fp
theorem qaW {p:Pol} (h:PI p) (v:List UInt8):PI (zc p v).1:=by
 unfold zc
 split
 ·exact ⟨{ h.may with sp:=show kZ .u64 0 2114060416 = 0 by decide },h.f0,h.l0,h.m0,show (0:Int)<=0∧(0:Int) < 18446744073709551616 by decide⟩
 split
 ·exact ⟨{ h.may with sp:=show kZ .u64 0 2114060416 = 0 by decide },h.f0,h.l0,h.m0,show (0:Int)<=0∧(0:Int) < 18446744073709551616 by decide⟩
 split
 ·exact ⟨{ h.may with sp:=show kZ .u64 jD 2114060416 = 0 by decide },h.f0,h.l0,h.m0,show 0<=jD∧jD < 18446744073709551616 by decide⟩
 ·dsimp only
  obtain ⟨k1,k2⟩:=qbQ (qn (zb v).1) (0,[]) (by decide) (by decide)
  generalize (qn (zb v).1).foldl jj (0,[]) = r at k1 k2
  unfold qbP
  split
  ·split
   ·exact ⟨{ h.may with sp:=k1 },h.f0,h.l0,h.m0,k2⟩
   ·obtain ⟨q,q1,q2,_⟩:=qdX jD r.1
    refine ⟨{ h.may with sp:=qkb },h.f0,h.l0,h.m0,?_⟩
    show 0<=kZ .u64 jD r.1∧kZ .u64 jD r.1 < _
    rw [q1]; omega
  ·exact h
theorem qje {p:Pol} (h:PI p) (k v:List UInt8):PI (wR p k v).1:=by
 unfold wR
 split
 ·exact qdR h v
 split
 ·exact qcd h v
 split
 ·exact qaW h v
 split
 ·exact XY p h _ _ _ _
 split
 ·exact XY p h _ _ _ _
 split
 ·exact XY p h _ _ _ _
 split
 ·exact XY p h _ _ _ _
 ·exact h
variable (E)
noncomputable def doM (p:Pol) (a:Asg):Pol × List GNote :=
 if a.sec≠Zf then (p,[⟨a.file,a.line,100,a.sec.take 60⟩])
 else if qf2 a.key = true then ((kw E p a.key a.val).1,(kw E p a.key a.val).2.map (jZ a))
 else if qf3 a.key = true then ((wR p a.key a.val).1,(wR p a.key a.val).2.map (qN a))
 else (p,[⟨a.file,a.line,100,a.key.take 60⟩])
noncomputable def doS (s:Pol × List GNote) (a:Asg):Pol × List GNote:=((doM E s.1 a).1,s.2++(doM E s.1 a).2)
noncomputable def yO (l:List Asg):Pol × List GNote:=l.foldl (doS E) (Jl,[])
def ju (ns:List GNote):Bool:=ns.any fun n=>!Z5 n.err
noncomputable def QN (l:List Asg):Pol × List GNote:=if ju (yO E l).2 = true then (yZ,(yO E l).2) else yO E l
variable {E}
theorem qkk (hE:vx E) {p:Pol} (h:PI p) (a:Asg):PI (doM E p a).1:=by
 unfold doM
 split
 ·exact h
 split
 ·exact qjc hE h _ _
 split
 ·exact qje h _ _
 ·exact h
theorem qb7 (hE:vx E):∀ (l:List Asg) (s:Pol × List GNote),PI s.1->PI (l.foldl (doS E) s).1
 | [],_,h=>h
 | a :: l,s,h=>qb7 hE l _ (qkk hE h a)
theorem qgw (p:Pol) (k v:List UInt8):(wR p k v).2.length<=v.length + 1:=by
 have h1:=wk v
 have h2:=wk (zb v).1
 have h3:=y3 v
 have a1:=Xy (qn v)
 have a2:=fun b=>JD b (qn (zb v).1)
 have a3:=qa6 (qn (zb v).1)
 have hs:(zz v).2.length<=1:=by
  unfold zz
  repeat' split
  all_goals simp
 unfold wR
 split
 ·have:=(a1 (if qn v = [] then [] else p.arches,[])).2
  simp at this
  show ((qn v).foldl zt (if qn v = [] then [] else p.arches,[])).2.length<=_
  omega
 split
 ·unfold zg
  split
  ·simp
  split
  ·simp
  ·have:=(a2 ((zb v).2 == decide (kq p.fmode (zb v).2 = 2)) (p.fams,[])).2
   simp at this
   dsimp only
   simp
   omega
 split
 ·unfold zc
  split
  ·simp
  split
  ·simp
  split
  ·simp
  ·have:=a3 (0,[])
   simp at this
   dsimp only
   omega
 split
 ·show (zz v).2.length<=_; omega
 split
 ·show (zz v).2.length<=_; omega
 split
 ·show (zz v).2.length<=_; omega
 split
 ·show (zz v).2.length<=_; omega
 ·simp
theorem qeL (E:List UInt8->List (List UInt8) × Int) (p:Pol) (a:Asg):(doM E p a).2.length<=a.val.length + 1:=by
 have h1:=qjd E p a.key a.val
 have h2:=qgw p a.key a.val
 unfold doM
 split
 ·simp
 split
 ·simpa using h1
 split
 ·simpa using h2
 ·simp
theorem qb8 (E:List UInt8->List (List UInt8) × Int):∀ (l:List Asg) (s:Pol × List GNote),(∀ a ∈ l,a.val.length<=1000)->(l.foldl (doS E) s).2.length<=s.2.length + 1001 * l.length
 | [],_,_=>by simp
 | a :: l,s,h=>by
  rw [List.foldl_cons]
  have h1:=qb8 E l (doS E s a) fun x hx=>h x (by simp [hx])
  have h2:=qeL E s.1 a
  have h3:=h a (by simp)
  have h4:(doS E s a).2.length = s.2.length + (doM E s.1 a).2.length:=by simp [doS]
  simp only [List.length_cons]
  omega
end Go.Kc
end
section
/- Lists that are equal, policies that are the same, notes with errors. Condition: the functions' texts are these. -/
namespace Go.Kc
variable {P:Program} {f:Nat}
instance:DecidableEq GCall:=fun a b=>if h:a.name = b.name∧a.act = b.act then isTrue (by obtain ⟨h1,h2⟩:=h; cases a; cases b; simp_all) else isFalse (by rintro rfl; exact h ⟨rfl,rfl⟩)
theorem Jt {α:Type} {l m:List α} {j:Nat} {x y:α} (hx:l[j]? = some x) (hy:m[j]? = some y) (h:l.take j = m.take j) (e:x = y):l.take (j + 1) = m.take (j + 1):=by
 rw [List.take_add_one,List.take_add_one,hx,hy,h,e]
def wK:IFn:=⟨[.tmp 4],.seq (.r [.m 4 (.c (.b false))]) (.seq (.seq (.r [.m 6 (.t 0),.q 7 (.len false (.t 6)),.m 8 (.t 1),.q 9 (.len false (.t 8)),.q 10 (.bin .neq (.t 7) (.t 9))]) (.cond (.t 10) (.seq (.r [.m 4 (.c (.b false))]) (.ret)) (.skip))) (.seq (.seq (.r [.m 11 (.t 0),.q 12 (.len false (.t 11)),.m 13 (.k 0)]) (.blk 0 (.loop (.seq (.r [.q 14 (.bin .lss (.t 13) (.t 12))]) (.seq (.cond (.t 14) (.skip) (.exit 0)) (.seq (.blk 1 (.seq (.r [.m 15 (.t 13),.m 5 (.t 15)]) (.seq (.reg true [.m 16 (.t 0),.m 17 (.t 5),.q 18 (.iAddrS 1 (.t 16) (.t 17)),.q 19 (.load1 (.t 18)),.m 20 (.t 1),.m 21 (.t 5),.q 22 (.iAddrS 1 (.t 20) (.t 21)),.q 23 (.load1 (.t 22)),.q 24 (.bin .neq (.t 19) (.t 23))]) (.cond (.t 24) (.seq (.r [.m 4 (.c (.b false))]) (.ret)) (.skip))))) (.r [.q 25 (.bin .add (.t 13) (.k 1)),.m 13 (.t 25)]))))))) (.seq (.r [.m 4 (.c (.b true))]) (.ret))))⟩
theorem qpu (hc:qm P f wK = true) (l m:List Int) (hl:l.length<=100000):qg P f [.fz l.length (rI .i64 l),.fz m.length (rI .i64 m)] (.b (decide (l = m))):=by
 refine qg.mk hc (by simp [qw,clo,qk]) ?_
 simp only [wK,qh,H0,mkT,mkH,trL,vI,simprocAttr]
 by_cases hlen:l.length = m.length
 ·have hli:(l.length:Int) = m.length:=by omega
  simp only [↓vS,vT,shb,shv,qb,qc,cellsOf,wr,qa,simprocAttr,hli]
  refine SL.loop (α:=Nat) (fun j=>[(0,.fz l.length (rI .i64 l)),(1,.fz m.length (rI .i64 m)),(12,.i .i64 l.length),(13,.i .i64 j)]) (fun _=>[]) (fun j=>j<=l.length∧l.take j = m.take j) (fun j=>l.length - j) 0 [] ?_ ?_ ?_ rfl ?_ ?_
  ·simp [vw,qk,hli]
  ·trivial
  ·simp
  ·exact ⟨Nat.zero_le _,by simp⟩
  rintro j ⟨hj,hI⟩ G ih
  simp only [qh,H0,mkT,mkH,trL,vI,simprocAttr]
  by_cases hlt:j < l.length
  ·have hlm:j < m.length:=by omega
   have hx:l[j]? = some l[j]:=List.getElem?_eq_getElem hlt
   have hy:m[j]? = some m[j]:=List.getElem?_eq_getElem hlm
   have hw:IntKind.wrap .i64 ((j:Int) + 1) = ((j + 1:Nat):Int):=by rw [qG (by omega) (by omega)]; omega
   by_cases e:l[j] = m[j]
   ·simp only [↓vS,vT,shb,shv,qb,qc,cellsOf,wr,qa,simprocAttr,hlt,hlm]
    refine zS ?_
    simp (decide:=true) only [↓vS,vT,shb,shv,qb,qc,cellsOf,wr,qa,simprocAttr,hlt,hlm,Nat.mul_one,jw,hx,hy,Option.map_some,e,hw,ne_eq,not_true_eq_false]
    refine ih (j + 1) ⟨by omega,Jt hx hy hI e⟩ (by omega) _ _ (Wk.mk _ _ [] ?_ ?_ ?_ rfl)
    ·simp [vw,qk]
    ·trivial
    ·simp
   ·have hne:l≠m:=by
     intro h; subst h; exact e rfl
    simp only [↓vS,vT,shb,shv,qb,qc,cellsOf,wr,qa,simprocAttr,hlt,hlm]
    refine zS ?_
    simp (decide:=true) only [↓vS,vT,shb,shv,qb,qc,cellsOf,wr,qa,simprocAttr,hlt,hlm,Nat.mul_one,jw,hx,hy,Option.map_some,e,hw,ne_eq,not_false_eq_true]
    simp [vZ,hne]
  ·have he:l = m:=by
    rw [List.take_of_length_le (by omega),List.take_of_length_le (by omega)] at hI; exact hI
   simp only [↓vS,vT,shb,shv,qb,qc,cellsOf,wr,qa,simprocAttr,hlt]
   simp [vZ,he]
 ·have hli:¬ (l.length:Int) = m.length:=by omega
  have hne:l≠m:=fun h=>hlen (by rw [h])
  simp only [↓vS,vT,shb,shv,qb,qc,cellsOf,wr,qa,simprocAttr,hli]
  simp [vZ,hne]
def jo:IFn:=⟨[.tmp 4],.seq (.r [.m 4 (.c (.b false))]) (.seq (.seq (.r [.m 6 (.t 0),.q 7 (.len false (.t 6)),.m 8 (.t 1),.q 9 (.len false (.t 8)),.q 10 (.bin .neq (.t 7) (.t 9))]) (.cond (.t 10) (.seq (.r [.m 4 (.c (.b false))]) (.ret)) (.skip))) (.seq (.seq (.r [.m 11 (.t 0),.q 12 (.len false (.t 11)),.m 13 (.k 0)]) (.blk 0 (.loop (.seq (.r [.q 14 (.bin .lss (.t 13) (.t 12))]) (.seq (.cond (.t 14) (.skip) (.exit 0)) (.seq (.blk 1 (.seq (.r [.m 15 (.t 13),.m 5 (.t 15)]) (.seq (.reg true [.m 16 (.t 0),.m 17 (.t 5),.q 18 (.iAddrS 1 (.t 16) (.t 17)),.q 19 (.load1 (.t 18)),.m 20 (.t 1),.m 21 (.t 5),.q 22 (.iAddrS 1 (.t 20) (.t 21)),.q 23 (.load1 (.t 22)),.q 24 (.bin .neq (.t 19) (.t 23))]) (.cond (.t 24) (.seq (.r [.m 4 (.c (.b false))]) (.ret)) (.skip))))) (.r [.q 25 (.bin .add (.t 13) (.k 1)),.m 13 (.t 25)]))))))) (.seq (.r [.m 4 (.c (.b true))]) (.ret))))⟩
theorem qpv (hc:qm P f jo = true) (l m:List Int) (hl:l.length<=100000):qg P f [.fz l.length (rI .u32 l),.fz m.length (rI .u32 m)] (.b (decide (l = m))):=by
 refine qg.mk hc (by simp [qw,clo,qk]) ?_
 simp only [jo,qh,H0,mkT,mkH,trL,vI,simprocAttr]
 by_cases hlen:l.length = m.length
 ·have hli:(l.length:Int) = m.length:=by omega
  simp only [↓vS,vT,shb,shv,qb,qc,cellsOf,wr,qa,simprocAttr,hli]
  refine SL.loop (α:=Nat) (fun j=>[(0,.fz l.length (rI .u32 l)),(1,.fz m.length (rI .u32 m)),(12,.i .i64 l.length),(13,.i .i64 j)]) (fun _=>[]) (fun j=>j<=l.length∧l.take j = m.take j) (fun j=>l.length - j) 0 [] ?_ ?_ ?_ rfl ?_ ?_
  ·simp [vw,qk,hli]
  ·trivial
  ·simp
  ·exact ⟨Nat.zero_le _,by simp⟩
  rintro j ⟨hj,hI⟩ G ih
  simp only [qh,H0,mkT,mkH,trL,vI,simprocAttr]
  by_cases hlt:j < l.length
  ·have hlm:j < m.length:=by omega
   have hx:l[j]? = some l[j]:=List.getElem?_eq_getElem hlt
   have hy:m[j]? = some m[j]:=List.getElem?_eq_getElem hlm
   have hw:IntKind.wrap .i64 ((j:Int) + 1) = ((j + 1:Nat):Int):=by rw [qG (by omega) (by omega)]; omega
   by_cases e:l[j] = m[j]
   ·simp only [↓vS,vT,shb,shv,qb,qc,cellsOf,wr,qa,simprocAttr,hlt,hlm]
    refine zS ?_
    simp (decide:=true) only [↓vS,vT,shb,shv,qb,qc,cellsOf,wr,qa,simprocAttr,hlt,hlm,Nat.mul_one,jw,hx,hy,Option.map_some,e,hw,ne_eq,not_true_eq_false]
    refine ih (j + 1) ⟨by omega,Jt hx hy hI e⟩ (by omega) _ _ (Wk.mk _ _ [] ?_ ?_ ?_ rfl)
    ·simp [vw,qk]
    ·trivial
    ·simp
   ·have hne:l≠m:=by
     intro h; subst h; exact e rfl
    simp only [↓vS,vT,shb,shv,qb,qc,cellsOf,wr,qa,simprocAttr,hlt,hlm]
    refine zS ?_
    simp (decide:=true) only [↓vS,vT,shb,shv,qb,qc,cellsOf,wr,qa,simprocAttr,hlt,hlm,Nat.mul_one,jw,hx,hy,Option.map_some,e,hw,ne_eq,not_false_eq_true]
    simp [vZ,hne]
  ·have he:l = m:=by
    rw [List.take_of_length_le (by omega),List.take_of_length_le (by omega)] at hI; exact hI
   simp only [↓vS,vT,shb,shv,qb,qc,cellsOf,wr,qa,simprocAttr,hlt]
   simp [vZ,he]
 ·have hli:¬ (l.length:Int) = m.length:=by omega
  have hne:l≠m:=fun h=>hlen (by rw [h])
  simp only [↓vS,vT,shb,shv,qb,qc,cellsOf,wr,qa,simprocAttr,hli]
  simp [vZ,hne]
def xw:IFn:=⟨[.tmp 4],.seq (.r [.m 4 (.c (.b false))]) (.seq (.seq (.r [.m 6 (.t 0),.q 7 (.len false (.t 6)),.m 8 (.t 1),.q 9 (.len false (.t 8)),.q 10 (.bin .neq (.t 7) (.t 9))]) (.cond (.t 10) (.seq (.r [.m 4 (.c (.b false))]) (.ret)) (.skip))) (.seq (.seq (.r [.m 11 (.t 0),.q 12 (.len false (.t 11)),.m 13 (.k 0)]) (.blk 0 (.loop (.seq (.r [.q 14 (.bin .lss (.t 13) (.t 12))]) (.seq (.cond (.t 14) (.skip) (.exit 0)) (.seq (.blk 1 (.seq (.r [.m 15 (.t 13),.m 5 (.t 15)]) (.seq (.reg true [.m 16 (.t 0),.m 17 (.t 5),.q 18 (.iAddrS 2 (.t 16) (.t 17)),.q 19 (.loadN 2 (.t 18)),.m 20 (.t 1),.m 21 (.t 5),.q 22 (.iAddrS 2 (.t 20) (.t 21)),.q 23 (.loadN 2 (.t 22)),.q 24 (.eqA true [.s,.i] (.t 19) (.t 23))]) (.cond (.t 24) (.seq (.r [.m 4 (.c (.b false))]) (.ret)) (.skip))))) (.r [.q 25 (.bin .add (.t 13) (.k 1)),.m 13 (.t 25)]))))))) (.seq (.r [.m 4 (.c (.b true))]) (.ret))))⟩
theorem qno (hc:qm P f xw = true) (l m:List GCall) (hl:l.length<=100000):qg P f [.fz l.length (rC l),.fz m.length (rC m)] (.b (decide (l = m))):=by
 refine qg.mk hc (by simp [qw,clo,qj]) ?_
 simp only [xw,qh,H0,mkT,mkH,trL,vI,simprocAttr]
 by_cases hlen:l.length = m.length
 ·have hli:(l.length:Int) = m.length:=by omega
  simp only [↓vS,vT,shb,shv,qb,qc,cellsOf,wr,qa,simprocAttr,hli]
  refine SL.loop (α:=Nat) (fun j=>[(0,.fz l.length (rC l)),(1,.fz m.length (rC m)),(12,.i .i64 l.length),(13,.i .i64 j)]) (fun _=>[]) (fun j=>j<=l.length∧l.take j = m.take j) (fun j=>l.length - j) 0 [] ?_ ?_ ?_ rfl ?_ ?_
  ·simp [vw,qj,hli]
  ·trivial
  ·simp
  ·exact ⟨Nat.zero_le _,by simp⟩
  rintro j ⟨hj,hI⟩ G ih
  simp only [qh,H0,mkT,mkH,trL,vI,simprocAttr]
  by_cases hlt:j < l.length
  ·have hlm:j < m.length:=by omega
   have hx:l[j]? = some l[j]:=List.getElem?_eq_getElem hlt
   have hy:m[j]? = some m[j]:=List.getElem?_eq_getElem hlm
   have hw:IntKind.wrap .i64 ((j:Int) + 1) = ((j + 1:Nat):Int):=by rw [qG (by omega) (by omega)]; omega
   have ex:=ZG hx
   have ey:=ZG hy
   have bx:=kV hlt
   have bY:=kV hlm
   have hst:=fun e=>Jt hx hy hI e
   have hne:l[j]≠m[j]->l≠m:=by
    intro e h; subst h; exact e rfl
   generalize l[j] = a at ex hst hne
   generalize m[j] = b at ey hst hne
   by_cases e1:a.name = b.name
   ·by_cases e2:a.act = b.act
    ·have e:a = b:=by cases a; cases b; simp_all
     simp only [↓vS,vT,shb,shv,qb,qc,cellsOf,wr,qa,simprocAttr,hlt,hlm]
     refine zS ?_
     simp (decide:=true) only [↓vS,vT,shb,shv,qb,qc,cellsOf,wr,qa,simprocAttr,hlt,hlm,ex,ey,bx,bY,jy,e1,e2,hw,beq_self_eq_true]
     refine ih (j + 1) ⟨by omega,hst e⟩ (by omega) _ _ (Wk.mk _ _ [] ?_ ?_ ?_ rfl)
     ·simp [vw,qj]
     ·trivial
     ·simp
    ·have hn:=hne (by rintro rfl; exact e2 rfl)
     simp only [↓vS,vT,shb,shv,qb,qc,cellsOf,wr,qa,simprocAttr,hlt,hlm]
     refine zS ?_
     simp (decide:=true) only [↓vS,vT,shb,shv,qb,qc,cellsOf,wr,qa,simprocAttr,hlt,hlm,ex,ey,bx,bY,jy,e1,e2,hw,beq_self_eq_true]
     simp [vZ,hn]
   ·have hn:=hne (by rintro rfl; exact e1 rfl)
    simp only [↓vS,vT,shb,shv,qb,qc,cellsOf,wr,qa,simprocAttr,hlt,hlm]
    refine zS ?_
    simp (decide:=true) only [↓vS,vT,shb,shv,qb,qc,cellsOf,wr,qa,simprocAttr,hlt,hlm,ex,ey,bx,bY,jy,e1,hw]
    simp [vZ,hn]
  ·have he:l = m:=by
    rw [List.take_of_length_le (by omega),List.take_of_length_le (by omega)] at hI; exact hI
   simp only [↓vS,vT,shb,shv,qb,qc,cellsOf,wr,qa,simprocAttr,hlt]
   simp [vZ,he]
 ·have hli:¬ (l.length:Int) = m.length:=by omega
  have hne:l≠m:=fun h=>hlen (by rw [h])
  simp only [↓vS,vT,shb,shv,qb,qc,cellsOf,wr,qa,simprocAttr,hli]
  simp [vZ,hne]
def Zp (a b:GList):Bool:=decide (a.mode = b.mode) && decide (a.calls = b.calls)
def yT (f_slices_Equal_api_Call_api_Call:Nat):IFn:=⟨[.tmp 4],.seq (.r [.q 2 (.box (.t 0)),.q 3 (.box (.t 1)),.m 4 (.c (.b false))]) (.seq (.r [.q 5 (.fAddr 0 (.t 2)),.q 6 (.load1 (.t 5)),.q 7 (.fAddr 0 (.t 3)),.q 8 (.load1 (.t 7)),.q 9 (.bin .eql (.t 6) (.t 8)),.m 10 (.t 9),.g 11 (.fAddr 1 (.t 2)) 10 true,.g 12 (.load1 (.t 11)) 10 true,.g 13 (.fAddr 1 (.t 3)) 10 true,.g 14 (.load1 (.t 13)) 10 true,⟨(some 15),.callF f_slices_Equal_api_Call_api_Call [.t 12,.t 14],(some (10,true))⟩,.q 16 (.pick (.t 10) (.t 15) (.c (.b false))),.m 4 (.t 16)]) (.ret))⟩
theorem qrQ {g:Nat} (hc:qm P f (yT g) = true) (hg:∀ l m:List GCall,l.length<=100000->qg P g [.fz l.length (rC l),.fz m.length (rC m)] (.b (decide (l = m)))) (a b:GList) (hl:a.calls.length<=100000):qg P f [.agg (qE a),.agg (qE b)] (.b (Zp a b)):=by
 refine qg.mk hc rfl ?_
 simp only [yT,qE,qh,H0,mkT,mkH,trL,vI,simprocAttr]
 by_cases h:a.mode = b.mode
 ·simp only [↓vS,vT,shb,shv,qb,qc,cellsOf,wr,qa,simprocAttr,h]
  refine (hg a.calls b.calls hl).sc ?_
  simp only [↓vS,vT,shb,shv,qb,qc,cellsOf,wr,qa,simprocAttr]
  simp [vZ,Zp,h]
 ·simp only [↓vS,vT,shb,shv,qb,qc,cellsOf,wr,qa,simprocAttr,h]
  simp [vZ,Zp,h]
def XX (p q:Pol):Bool:=decide (p.arches = q.arches) && decide (p.fams = q.fams) && Zp p.filter q.filter && Zp p.log q.log && ((p.we == q.we) && (p.pe == q.pe) && (p.rt == q.rt) && (p.np == q.np)) && decide (p.deny = q.deny) && decide (p.fmode = q.fmode) && decide (p.spaces = q.spaces)
theorem qdx (p q:Pol):XX p q = true↔p = q:=by
 obtain ⟨a1,⟨b1,c1⟩,d1,⟨e1,f1⟩,g1,h1,i1,j1,k1,l1,m1⟩:=p
 obtain ⟨a2,⟨b2,c2⟩,d2,⟨e2,f2⟩,g2,h2,i2,j2,k2,l2,m2⟩:=q
 simp only [XX,Zp,Bool.and_eq_true,decide_eq_true_eq,beq_iff_eq,Pol.mk.injEq,GList.mk.injEq]
 constructor
 ·rintro ⟨⟨⟨⟨⟨⟨⟨h,h'⟩,h2,h3⟩,h4,h5⟩,⟨⟨h6,h7⟩,h8⟩,h9⟩,h10⟩,h11⟩,h12⟩
  exact ⟨h,⟨h2,h3⟩,h10,⟨h4,h5⟩,h',h11,h12,h6,h7,h8,h9⟩
 ·rintro ⟨h,⟨h2,h3⟩,h10,⟨h4,h5⟩,h',h11,h12,h6,h7,h8,h9⟩
  exact ⟨⟨⟨⟨⟨⟨⟨h,h'⟩,h2,h3⟩,h4,h5⟩,⟨⟨h6,h7⟩,h8⟩,h9⟩,h10⟩,h11⟩,h12⟩
theorem qcv (p:Pol):XX p p = true:=(qdx p p).2 rfl
def jN (f_policy_Same_1 f_slices_Equal_int_int f_slices_Equal_uint32_uint32:Nat):ICode:=.seq (.r [.m 62 (.t 6),.m 63 (.t 62),.g 64 (.mov (.t 7)) 63 true,.q 65 (.pick (.t 63) (.t 64) (.c (.b false))),.m 66 (.t 65),.g 67 (.fAddr 3 (.t 2)) 66 true,.g 68 (.load1 (.t 67)) 66 true,.g 69 (.fAddr 3 (.t 3)) 66 true,.g 70 (.load1 (.t 69)) 66 true,.g 71 (.bin .eql (.t 68) (.t 70)) 66 true,.q 72 (.pick (.t 66) (.t 71) (.c (.b false))),.m 73 (.t 72),.g 74 (.fAddr 7 (.t 2)) 73 true,.g 75 (.load1 (.t 74)) 73 true,.g 76 (.fAddr 7 (.t 3)) 73 true,.g 77 (.load1 (.t 76)) 73 true,.g 78 (.bin .eql (.t 75) (.t 77)) 73 true,.q 79 (.pick (.t 73) (.t 78) (.c (.b false))),.m 80 (.t 79),.g 81 (.fAddr 8 (.t 2)) 80 true,.g 82 (.load1 (.t 81)) 80 true,.g 83 (.fAddr 8 (.t 3)) 80 true,.g 84 (.load1 (.t 83)) 80 true,.g 85 (.bin .eql (.t 82) (.t 84)) 80 true,.q 86 (.pick (.t 80) (.t 85) (.c (.b false))),.m 4 (.t 86)]) (.ret)
def jM (f_policy_Same_1 f_slices_Equal_int_int f_slices_Equal_uint32_uint32:Nat):ICode:=.seq (.r [.q 36 (.fAddr 9 (.t 2)),.q 37 (.load1 (.t 36)),.q 38 (.fAddr 9 (.t 3)),.q 39 (.load1 (.t 38)),.q 40 (.eqB false (.t 37) (.t 39)),.m 41 (.t 40),.g 42 (.fAddr 10 (.t 2)) 41 true,.g 43 (.load1 (.t 42)) 41 true,.g 44 (.fAddr 10 (.t 3)) 41 true,.g 45 (.load1 (.t 44)) 41 true,.g 46 (.eqB false (.t 43) (.t 45)) 41 true,.q 47 (.pick (.t 41) (.t 46) (.c (.b false))),.m 48 (.t 47),.g 49 (.fAddr 11 (.t 2)) 48 true,.g 50 (.load1 (.t 49)) 48 true,.g 51 (.fAddr 11 (.t 3)) 48 true,.g 52 (.load1 (.t 51)) 48 true,.g 53 (.eqB false (.t 50) (.t 52)) 48 true,.q 54 (.pick (.t 48) (.t 53) (.c (.b false))),.m 55 (.t 54),.g 56 (.fAddr 12 (.t 2)) 55 true,.g 57 (.load1 (.t 56)) 55 true,.g 58 (.fAddr 12 (.t 3)) 55 true,.g 59 (.load1 (.t 58)) 55 true,.g 60 (.eqB false (.t 57) (.t 59)) 55 true,.q 61 (.pick (.t 55) (.t 60) (.c (.b false))),.m 7 (.t 61)]) (.cut (jN f_policy_Same_1 f_slices_Equal_int_int f_slices_Equal_uint32_uint32))
def Za (f_policy_Same_1 f_slices_Equal_int_int f_slices_Equal_uint32_uint32:Nat):IFn:=⟨[.tmp 4],.seq (.r [.q 2 (.box (.t 0)),.q 3 (.box (.t 1)),.m 4 (.c (.b false))]) (.seq (.r [.m 5 (.c (.fn f_policy_Same_1 [] []))]) (.seq (.r [.q 8 (.fAddr 0 (.t 2)),.q 9 (.load1 (.t 8)),.q 10 (.fAddr 0 (.t 3)),.q 11 (.load1 (.t 10)),.l 12 f_slices_Equal_int_int [.t 9,.t 11],.m 13 (.t 12),.g 14 (.fAddr 6 (.t 2)) 13 true,.g 15 (.load1 (.t 14)) 13 true,.g 16 (.fAddr 6 (.t 3)) 13 true,.g 17 (.load1 (.t 16)) 13 true,⟨(some 18),.callF f_slices_Equal_uint32_uint32 [.t 15,.t 17],(some (13,true))⟩,.q 19 (.pick (.t 13) (.t 18) (.c (.b false))),.m 20 (.t 19),.g 21 (.mov (.t 5)) 20 true,.g 22 (.fAddr 1 (.t 2)) 20 true,.g 23 (.loadN 2 (.t 22)) 20 true,.g 24 (.fAddr 1 (.t 3)) 20 true,.g 25 (.loadN 2 (.t 24)) 20 true,⟨(some 26),.callV (.t 21) [.t 23,.t 25],(some (20,true))⟩,.q 27 (.pick (.t 20) (.t 26) (.c (.b false))),.m 28 (.t 27),.g 29 (.mov (.t 5)) 28 true,.g 30 (.fAddr 4 (.t 2)) 28 true,.g 31 (.loadN 2 (.t 30)) 28 true,.g 32 (.fAddr 4 (.t 3)) 28 true,.g 33 (.loadN 2 (.t 32)) 28 true,⟨(some 34),.callV (.t 29) [.t 31,.t 33],(some (28,true))⟩,.q 35 (.pick (.t 28) (.t 34) (.c (.b false))),.m 6 (.t 35)]) (.cut (jM f_policy_Same_1 f_slices_Equal_int_int f_slices_Equal_uint32_uint32))))⟩
theorem qiU (g1 g2 g3:Nat) (p q:Pol) (lists says:Bool) {t':Tr AV} {h':Hp} (hw:Wk 0 t' h' (mkT [(2,.ptr 0 0),(3,.ptr 1 0),(6,.b lists),(7,.b says)]) (mkH 0 [.cells 0 true false (qq p),.cells 0 true false (qq q)])) :
  S P 0 (jN g1 g2 g3) (jz [.tmp 4] fun v' h'=>Frz h' v' (.b (lists && says && decide (p.deny = q.deny) && decide (p.fmode = q.fmode) && decide (p.spaces = q.spaces)))) t' h':=by
 refine S.weak hw (qA ?_)
 simp only [jN,qq,qh,H0,mkT,mkH,trL,vI,simprocAttr]
 cases lists with
 | false =>
  simp only [↓vS,vT,shb,shv,qb,qc,cellsOf,wr,qa,simprocAttr]
  simp [vZ]
 | true =>
  cases says with
  | false =>
   simp only [↓vS,vT,shb,shv,qb,qc,cellsOf,wr,qa,simprocAttr]
   simp [vZ]
  | true =>
   by_cases d1:p.deny = q.deny
   ·by_cases d2:p.fmode = q.fmode
    ·by_cases d3:p.spaces = q.spaces
     ·simp only [↓vS,vT,shb,shv,qb,qc,cellsOf,wr,qa,simprocAttr,d1,d2,d3]
      simp [vZ]
     ·simp only [↓vS,vT,shb,shv,qb,qc,cellsOf,wr,qa,simprocAttr,d1,d2,d3]
      simp [vZ]
    ·simp only [↓vS,vT,shb,shv,qb,qc,cellsOf,wr,qa,simprocAttr,d1,d2]
     simp [vZ]
   ·simp only [↓vS,vT,shb,shv,qb,qc,cellsOf,wr,qa,simprocAttr,d1]
    simp [vZ]
theorem qiT (g1 g2 g3:Nat) (p q:Pol) (lists:Bool) {t':Tr AV} {h':Hp} (hw:Wk 0 t' h' (mkT [(2,.ptr 0 0),(3,.ptr 1 0),(6,.b lists)]) (mkH 0 [.cells 0 true false (qq p),.cells 0 true false (qq q)])) :
  S P 0 (jM g1 g2 g3) (jz [.tmp 4] fun v' h'=>Frz h' v' (.b (lists && ((p.we == q.we) && (p.pe == q.pe) && (p.rt == q.rt) && (p.np == q.np)) && decide (p.deny = q.deny) && decide (p.fmode = q.fmode) && decide (p.spaces = q.spaces)))) t' h':=by
 refine S.weak hw (qA ?_)
 have go:∀ s,s = ((p.we == q.we) && (p.pe == q.pe) && (p.rt == q.rt) && (p.np == q.np))->∀ {t':Tr AV} {h':Hp},Wk 0 t' h' (mkT [(2,.ptr 0 0),(3,.ptr 1 0),(6,.b lists),(7,.b s)]) (mkH 0 [.cells 0 true false (qq p),.cells 0 true false (qq q)])->
   S P 0 (jN g1 g2 g3) (jz [.tmp 4] fun v' h'=>Frz h' v' (.b (lists && ((p.we == q.we) && (p.pe == q.pe) && (p.rt == q.rt) && (p.np == q.np)) && decide (p.deny = q.deny) && decide (p.fmode = q.fmode) && decide (p.spaces = q.spaces)))) t' h':=by
  rintro s rfl t' h' hw
  exact qiU g1 g2 g3 p q lists _ hw
 simp only [jM,qq,qh,H0,mkT,mkH,trL,vI,simprocAttr]
 by_cases w1:p.we = q.we
 ·by_cases w2:p.pe = q.pe
  ·by_cases w3:p.rt = q.rt
   ·by_cases w4:p.np = q.np
    ·simp (decide:=true) only [↓vS,vT,shb,shv,qb,qc,cellsOf,wr,qa,simprocAttr,w1,w2,w3,w4,beq_self_eq_true]
     refine go true (by simp [w1,w2,w3,w4]) (Wk.mk _ _ [0,1] ?_ ?_ ?_ rfl)
     ·simp [vw]
     ·simp [vw,qq,qk,qj,w1,w2,w3,w4]
     ·simp
    ·have e:(p.np == q.np) = false:=by simpa using w4
     simp (decide:=true) only [↓vS,vT,shb,shv,qb,qc,cellsOf,wr,qa,simprocAttr,w1,w2,w3,e,beq_self_eq_true]
     refine go false (by simp [w1,w2,w3,w4]) (Wk.mk _ _ [0,1] ?_ ?_ ?_ rfl)
     ·simp [vw]
     ·simp [vw,qq,qk,qj,w1,w2,w3]
     ·simp
   ·have e:(p.rt == q.rt) = false:=by simpa using w3
    simp (decide:=true) only [↓vS,vT,shb,shv,qb,qc,cellsOf,wr,qa,simprocAttr,w1,w2,e,beq_self_eq_true]
    refine go false (by simp [w1,w2,w3]) (Wk.mk _ _ [0,1] ?_ ?_ ?_ rfl)
    ·simp [vw]
    ·simp [vw,qq,qk,qj,w1,w2]
    ·simp
  ·have e:(p.pe == q.pe) = false:=by simpa using w2
   simp (decide:=true) only [↓vS,vT,shb,shv,qb,qc,cellsOf,wr,qa,simprocAttr,w1,e,beq_self_eq_true]
   refine go false (by simp [w1,w2]) (Wk.mk _ _ [0,1] ?_ ?_ ?_ rfl)
   ·simp [vw]
   ·simp [vw,qq,qk,qj,w1]
   ·simp
 ·have e:(p.we == q.we) = false:=by simpa using w1
  simp (decide:=true) only [↓vS,vT,shb,shv,qb,qc,cellsOf,wr,qa,simprocAttr,e]
  refine go false (by simp [w1]) (Wk.mk _ _ [0,1] ?_ ?_ ?_ rfl)
  ·simp [vw]
  ·simp [vw,qq,qk,qj]
  ·simp
def X5 (P:Program) (f:Nat):Prop:=∀ p q:Pol,PolOk p->qg P f [.agg (qq p),.agg (qq q)] (.b (XX p q))
theorem qso {g1 g2 g3:Nat} (hc:qm P f (Za g1 g2 g3) = true) (h1:∀ a b:GList,a.calls.length<=100000->qg P g1 [.agg (qE a),.agg (qE b)] (.b (Zp a b)))
  (h2:∀ l m:List Int,l.length<=100000->qg P g2 [.fz l.length (rI .i64 l),.fz m.length (rI .i64 m)] (.b (decide (l = m)))) (h3:∀ l m:List Int,l.length<=100000->qg P g3 [.fz l.length (rI .u32 l),.fz m.length (rI .u32 m)] (.b (decide (l = m)))):X5 P f:=by
 intro p q hp
 have ha:=hp.a
 have hf:=hp.f
 have hcc:=hp.c
 have hl:=hp.l
 refine qg.mk hc rfl ?_
 have go:∀ s,s = (decide (p.arches = q.arches) && decide (p.fams = q.fams) && Zp p.filter q.filter && Zp p.log q.log)->∀ {t':Tr AV} {h':Hp},Wk 0 t' h' (mkT [(2,.ptr 0 0),(3,.ptr 1 0),(6,.b s)]) (mkH 0 [.cells 0 true false (qq p),.cells 0 true false (qq q)])->
   S P 0 (jM g1 g2 g3) (jz [.tmp 4] fun v' h'=>Frz h' v' (.b (XX p q))) t' h':=by
  rintro s rfl t' h' hw
  exact qiT g1 g2 g3 p q _ hw
 simp only [Za,qq,qh,H0,mkT,mkH,trL,vI,simprocAttr]
 simp only [↓vS,vT,shb,shv,qb,qc,cellsOf,wr,qa,simprocAttr]
 refine (h2 p.arches q.arches (by omega)).sc ?_
 cases k1:decide (p.arches = q.arches) with
 | false =>
  simp only [↓vS,vT,shb,shv,qb,qc,cellsOf,wr,qa,simprocAttr]
  refine go false (by simp [k1]) (Wk.mk _ _ [0,1] ?_ ?_ ?_ rfl)
  ·simp [vw]
  ·simp [vw,qq,qk,qj]
  ·simp
 | true =>
  simp only [↓vS,vT,shb,shv,qb,qc,cellsOf,wr,qa,simprocAttr]
  refine (h3 p.fams q.fams (by omega)).sc ?_
  cases k2:decide (p.fams = q.fams) with
  | false =>
   simp only [↓vS,vT,shb,shv,qb,qc,cellsOf,wr,qa,simprocAttr]
   refine go false (by simp [k2]) (Wk.mk _ _ [0,1] ?_ ?_ ?_ rfl)
   ·simp [vw]
   ·simp [vw,qq,qk,qj]
   ·simp
  | true =>
   simp only [↓vS,vT,shb,shv,qb,qc,cellsOf,wr,qa,simprocAttr]
   refine (h1 p.filter q.filter (by omega)).sc ?_
   cases k3:Zp p.filter q.filter with
   | false =>
    simp only [↓vS,vT,shb,shv,qb,qc,cellsOf,wr,qa,simprocAttr]
    refine go false (by simp [k3]) (Wk.mk _ _ [0,1] ?_ ?_ ?_ rfl)
    ·simp [vw]
    ·simp [vw,qq,qk,qj]
    ·simp
   | true =>
    simp only [↓vS,vT,shb,shv,qb,qc,cellsOf,wr,qa,simprocAttr]
    refine (h1 p.log q.log (by omega)).sc ?_
    simp only [↓vS,vT,shb,shv,qb,qc,cellsOf,wr,qa,simprocAttr]
    refine go (Zp p.log q.log) (by rw [k1,k2,k3]; simp) (Wk.mk _ _ [0,1] ?_ ?_ ?_ rfl)
    ·simp [vw]
    ·simp [vw,qq,qk,qj]
    ·simp
def z7:IFn:=⟨[.tmp 4],.seq (.r [.m 4 (.k 0)]) (.seq (.seq (.r [.m 6 (.t 0),.q 7 (.len false (.t 6)),.m 8 (.k 0)]) (.blk 0 (.loop (.seq (.r [.q 9 (.bin .lss (.t 8) (.t 7))]) (.seq (.cond (.t 9) (.skip) (.exit 0)) (.seq (.blk 1 (.seq (.r [.m 10 (.t 8),.m 5 (.t 10)]) (.seq (.r [.m 11 (.t 1),.m 12 (.t 0),.m 13 (.t 5),.q 14 (.iAddrS 4 (.t 12) (.t 13)),.q 15 (.loadN 4 (.t 14)),⟨(some 16),.callV (.t 11) [.t 15],none⟩]) (.cond (.t 16) (.seq (.r [.m 17 (.t 5),.m 4 (.t 17)]) (.ret)) (.skip))))) (.r [.q 18 (.bin .add (.t 8) (.k 1)),.m 8 (.t 18)]))))))) (.seq (.r [.q 4 (.mov (.c (.i .i64 (-1))))]) (.ret)))⟩
theorem qeV (hc:qm P f z7 = true):Qa 4 P f:=by
 intro α enc p g a c l hlen ha hc' hl hp
 refine qg.mk hc (by simp [qw,clo,ha,hc']) ?_
 simp only [z7,qh,H0,mkT,mkH,trL,vI,simprocAttr]
 simp only [↓vS,vT,shb,shv,qb,qc,cellsOf,wr,qa,simprocAttr]
 refine SL.loop (α:=Nat) (fun j=>[(0,.fz l.length (l.flatMap enc)),(1,.fn g a c),(7,.i .i64 l.length),(8,.i .i64 j)]) (fun _=>[]) (fun j=>j<=l.length∧xE p l 0 = xE p (l.drop j) j) (fun j=>l.length - j) 0 [] ?_ ?_ ?_ rfl ?_ ?_
 ·simp [vw,qd,ha,hc']
 ·trivial
 ·simp
 ·simp
 rintro j ⟨hj,hI⟩ G ih
 simp only [qh,H0,mkT,mkH,trL,vI,simprocAttr]
 by_cases hlt:j < l.length
 ·have hx:l[j]? = some l[j]:=List.getElem?_eq_getElem hlt
  have hw:IntKind.wrap .i64 ((j:Int) + 1) = (j:Int) + 1:=qG (by omega) (by have:=hl; simp only [qi] at this; omega)
  have he:=xl hlen hx
  have hb:j * 4 + 4<=(l.flatMap enc).length:=by rw [zW hlen]; omega
  rw [List.drop_eq_getElem_cons hlt,xE] at hI
  simp only [↓vS,vT,shb,shv,qb,qc,cellsOf,wr,qa,simprocAttr,hlt,hb,he,hw]
  refine (hp l[j] (List.getElem_mem hlt)).sc ?_
  by_cases hpx:p l[j] = true
  ·rw [if_pos hpx] at hI
   simp only [↓vS,vT,shb,shv,qb,qc,cellsOf,wr,qa,simprocAttr,hpx,vZ,hI]
  ·rw [if_neg hpx] at hI
   simp only [↓vS,vT,shb,shv,qb,qc,cellsOf,wr,qa,simprocAttr,hpx,hw]
   refine ih (j + 1) ⟨by omega,hI⟩ (by omega) _ _ (Wk.mk _ _ [] ?_ ?_ ?_ rfl)
   ·simp [vw,qd,ha,hc']
   ·trivial
   ·simp
 ·simp only [↓vS,vT,shb,shv,qb,qc,cellsOf,wr,qa,simprocAttr,hlt]
  rw [List.drop_eq_nil_of_le (by omega)] at hI
  simp [hI,xE,vZ]
def zP (f_slices_IndexFunc_api_Note_api_Note:Nat):IFn:=⟨[.tmp 4],.seq (.r [.m 4 (.c (.b false))]) (.seq (.r [.m 5 (.t 0),.m 6 (.t 1),.l 7 f_slices_IndexFunc_api_Note_api_Note [.t 5,.t 6],.q 8 (.bin .geq (.t 7) (.k 0)),.m 4 (.t 8)]) (.ret))⟩
theorem qhw {g:Nat} (hc:qm P f (zP g) = true) (h:Qa 4 P g) (l:List GNote) (k:Nat) (p:GNote->Bool) (hk:∀ c,qg P k [.agg (kj c)] (.b (p c))) (hl:l.length<=qi):qg P f [.fz l.length (rN l),.fn k [] []] (.b (l.any p)):=by
 refine qg.mk hc (by simp [qw,clo,qe]) ?_
 simp only [zP,qh,H0,mkT,mkH,trL,vI,simprocAttr]
 simp only [↓vS,vT,shb,shv,qb,qc,cellsOf,wr,qa,simprocAttr]
 refine (h kj p k [] [] l X4 rfl rfl hl fun x _=>hk x).sc ?_
 simp only [↓vS,vT,shb,shv,qb,qc,cellsOf,wr,qa,simprocAttr]
 simp [vZ,← qaN p l 0]
def kN (f_fold_Warns:Nat):IFn:=⟨[.tmp 2],.seq (.r [.q 1 (.box (.t 0)),.m 2 (.c (.b false))]) (.seq (.r [.q 3 (.fAddr 2 (.t 1)),.q 4 (.load1 (.t 3)),.l 5 f_fold_Warns [.t 4],.q 6 (.un .not (.t 5)),.m 2 (.t 6)]) (.ret))⟩
theorem qqE {g:Nat} (hc:qm P f (kN g) = true) (hg:∀ x,qg P g [.i .i64 x] (.b (Z5 x))) (n:GNote):qg P f [.agg (kj n)] (.b (!Z5 n.err)):=by
 refine qg.mk hc rfl ?_
 simp only [kN,kj,qh,H0,mkT,mkH,trL,vI,simprocAttr]
 simp only [↓vS,vT,shb,shv,qb,qc,cellsOf,wr,qa,simprocAttr]
 refine (hg n.err).sc ?_
 simp only [↓vS,vT,shb,shv,qb,qc,cellsOf,wr,qa,simprocAttr]
 simp [vZ]
def yS (f_slices_ContainsFunc_api_Note_api_Note f_policy_Failed_1:Nat):IFn:=⟨[.tmp 2],.seq (.r [.m 2 (.c (.b false))]) (.seq (.r [.m 3 (.t 0),.l 4 f_slices_ContainsFunc_api_Note_api_Note [.t 3,(.c (.fn f_policy_Failed_1 [] []))],.m 2 (.t 4)]) (.ret))⟩
theorem qrJ {g1 g2:Nat} (hc:qm P f (yS g1 g2) = true) (h1:∀ (l:List GNote) (k:Nat) (p:GNote->Bool),(∀ c,qg P k [.agg (kj c)] (.b (p c)))->l.length<=qi->qg P g1 [.fz l.length (rN l),.fn k [] []] (.b (l.any p)))
  (h2:∀ n,qg P g2 [.agg (kj n)] (.b (!Z5 n.err))) (l:List GNote) (hl:l.length<=qi):qg P f [.fz l.length (rN l)] (.b (ju l)):=by
 refine qg.mk hc (by simp [qw,clo,qe]) ?_
 simp only [yS,qh,H0,mkT,mkH,trL,vI,simprocAttr]
 simp only [↓vS,vT,shb,shv,qb,qc,cellsOf,wr,qa,simprocAttr]
 refine (h1 l g2 _ h2 hl).sc ?_
 simp only [↓vS,vT,shb,shv,qb,qc,cellsOf,wr,qa,simprocAttr]
 simp [vZ,ju]
end Go.Kc
end
section
/- What policy.do and policy.Resolve answer. Condition: the functions' texts are these. -/
namespace Go.Kc
variable {P:Program} {f:Nat}
theorem QS (a:Asg):(xb a).length = 5:=rfl
def rA (l:List Asg):List AV:=l.flatMap xb
section
variable {l m:List Asg} {j:Nat}
theorem Qr:(rA l).length = l.length * 5:=zW QS l
theorem wg:qw (rA l) = true:=yK fun _=>rfl
theorem qmq:qI (rA l) = true:=Xa fun _=>rfl
theorem qe7 {c:Asg} (h:l[j]? = some c):((rA l).drop (j * 5)).take 5 = xb c:=xl QS h
theorem qiX {c:Asg} (h:l[j]? = some c) {i:Nat} (hi:i < 5):(rA l)[j * 5 + i]? = (xb c)[i]?:=qc0 QS h hi
theorem qiW:rA l++rA m = rA (l++m):=by simp [rA]
theorem qds (h:j < l.length):j * 5 + 5<=(rA l).length:=by rw [Qr]; omega
end
def XS (a:Asg) (u:List UInt8):GNote:=⟨a.file,a.line,100,u.take 60⟩
def kc (f_filter_Key f_filter_Set f_restrict_Key f_restrict_Set:Nat):ICode:=.seq (.reg true [.q 33 (.loadN 13 (.t 2)),.q 34 (.fAddr 0 (.t 3)),.q 35 (.load1 (.t 34)),.q 36 (.fAddr 1 (.t 3)),.q 37 (.load1 (.t 36)),.m 38 (.t 6),.m 39 (.t 6),.q 40 (.len true (.t 39)),.q 41 (.min (.t 40) (.k 60)),.q 42 (.slcStr (.t 38) none (some (.t 41))),.q 43 (.build [.s [],.i .i64 0,.i .i64 0,.s []] [(0,1,(.t 35)),(1,1,(.t 37)),(2,1,(.k 100)),(3,1,(.t 42))]),.q 44 (.buildS 1 [.s [],.i .i64 0,.i .i64 0,.s []] [(0,4,(.t 43))]),.u (.storeD 13 (.t 4) (.t 33) [34,36]),.m 5 (.t 44)]) (.ret)
def XN (f_filter_Key f_filter_Set f_restrict_Key f_restrict_Set:Nat):IFn:=⟨[.cell 4 13 true,.tmp 5],.seq (.r [.q 2 (.box (.t 0)),.q 3 (.box (.t 1)),.q 4 (.alloc [.nils,.i .u8 0,.nils,.i .u32 0,.i .u8 0,.nils,.nils,.i .u8 0,.i .u64 0,.b false,.b false,.b false,.b false]),.m 5 (.c (.nils))]) (.seq (.r [.q 7 (.fAddr 3 (.t 3)),.q 8 (.load1 (.t 7)),.m 6 (.t 8)]) (.seq (.blk 0 (.seq (.r [.q 10 (.fAddr 2 (.t 3)),.q 11 (.load1 (.t 10)),.q 12 (.bin .neq (.t 11) (.c (.s [83,101,114,118,105,99,101]))),.m 9 (.t 12)]) (.cond (.t 9) (.r [.q 13 (.fAddr 2 (.t 3)),.q 14 (.load1 (.t 13)),.m 6 (.t 14)]) (.seq (.r [.q 16 (.fAddr 3 (.t 3)),.q 17 (.load1 (.t 16)),.l 18 f_filter_Key [.t 17],.m 15 (.t 18)]) (.cond (.t 15) (.seq (.r [.q 19 (.loadN 13 (.t 2)),.q 20 (.loadN 5 (.t 3)),.l 21 f_filter_Set [.t 19,.t 20],.q 22 (.ext (.t 21) 0),.q 23 (.ext (.t 21) 1),.u (.store 13 (.t 4) (.t 22)),.m 5 (.t 23)]) (.ret)) (.seq (.r [.q 25 (.fAddr 3 (.t 3)),.q 26 (.load1 (.t 25)),.l 27 f_restrict_Key [.t 26],.m 24 (.t 27)]) (.cond (.t 24) (.seq (.r [.q 28 (.loadN 13 (.t 2)),.q 29 (.loadN 5 (.t 3)),.l 30 f_restrict_Set [.t 28,.t 29],.q 31 (.ext (.t 30) 0),.q 32 (.ext (.t 30) 1),.u (.store 13 (.t 4) (.t 31)),.m 5 (.t 32)]) (.ret)) (.skip)))))))) (.cut (kc f_filter_Key f_filter_Set f_restrict_Key f_restrict_Set))))⟩
theorem ql6 (g1 g2 g3 g4:Nat) (p:Pol) (a:Asg) (u:List UInt8) {t':Tr AV} {h':Hp} (hw:Wk 0 t' h' (mkT [(2,.ptr 0 0),(3,.ptr 1 0),(4,.ptr 2 0),(6,.s u)]) (mkH 0 [.cells 0 true false (qq p),.cells 0 true false (xb a),.cells 0 true false z9])) :
  S P 0 (kc g1 g2 g3 g4) (jz [.cell 4 13 true,.tmp 5] fun v' h'=>Frz h' v' (.tup [.agg (qq p),.fz 1 (rN [XS a u])])) t' h':=by
 refine S.weak hw (qA ?_)
 simp only [kc,qq,xb,z9,qh,H0,mkT,mkH,trL,vI,simprocAttr]
 refine zS ?_
 have e:rN [XS a u] = [AV.s a.file,.i .i64 a.line,.i .i64 100,.s (u.take 60)]:=rfl
 rw [e]
 by_cases h60:(60:Int) < u.length
 ·have h1:60<=u.length:=by omega
  simp (decide:=true) only [↓vS,vT,shb,shv,qb,qc,cellsOf,wr,qa,simprocAttr,h60,h1,List.drop_zero]
  simp [vZ,vP,Tr.get_set,qq,qk,qH,qe,qj]
  refine Frz.cut 4 rfl (Nat.le_refl _) ?_
  simp [vP,Tr.get_set,vZ]
 ·have h1:u.take 60 = u:=List.take_of_length_le (by omega)
  rw [h1]
  simp (decide:=true) only [↓vS,vT,shb,shv,qb,qc,cellsOf,wr,qa,simprocAttr,h60,List.take_length,List.drop_zero]
  simp [vZ,vP,Tr.get_set,qq,qk,qH,qe,qj]
  refine Frz.cut 4 rfl (Nat.le_refl _) ?_
  simp [vP,Tr.get_set,vZ]
def cDo (E:List UInt8->List (List UInt8) × Int) (P:Program) (f:Nat):Prop:=∀ (p:Pol) (a:Asg),PI p->a.val.length<=1000->
 qg P f [.agg (qq p),.agg (xb a)] (.tup [.agg (qq (doM E p a).1),.fz (doM E p a).2.length (rN (doM E p a).2)])
theorem qrH {E:List UInt8->List (List UInt8) × Int} {g1 g2 g3 g4:Nat} (hc:qm P f (XN g1 g2 g3 g4) = true) (h1:∀ k,qg P g1 [.s k] (.b (qf2 k))) (h2:ql3 E P g2) (h3:∀ k,qg P g3 [.s k] (.b (qf3 k))) (h4:qqv P g4):cDo E P f:=by
 intro p a hp hv
 refine qg.mk hc rfl ?_
 generalize hT:AV.tup [.agg (qq (doM E p a).1),.fz (doM E p a).2.length (rN (doM E p a).2)] = tgt
 simp only [XN,qq,xb,qh,H0,mkT,mkH,trL,vI,simprocAttr]
 by_cases n0:a.sec = Zf
 ·have n0':a.sec = [83,101,114,118,105,99,101]:=n0
  simp (decide:=true) only [↓vS,vT,shb,shv,qb,qc,cellsOf,wr,qa,simprocAttr,n0',ne_eq,not_true_eq_false]
  refine (h1 a.key).sc ?_
  cases k1:qf2 a.key with
  | true =>
   have hM:doM E p a = ((kw E p a.key a.val).1,(kw E p a.key a.val).2.map (jZ a)):=by unfold doM; rw [if_neg (by simp [n0]),if_pos k1]
   subst hT
   rw [hM]
   simp (decide:=true) only [↓vS,vT,shb,shv,qb,qc,cellsOf,wr,qa,simprocAttr]
   have:=(h2 p a hp.ok ⟨hp.f0,hp.l0⟩ hv)
   simp only [qq,xb,n0'] at this
   refine this.sc ?_
   simp (decide:=true) only [↓vS,vT,shb,shv,qb,qc,cellsOf,wr,qa,simprocAttr,qq]
   simp [vZ,vP,Tr.get_set,qq,qk,qH,qe,qj]
  | false =>
   simp (decide:=true) only [↓vS,vT,shb,shv,qb,qc,cellsOf,wr,qa,simprocAttr]
   refine (h3 a.key).sc ?_
   cases k2:qf3 a.key with
   | true =>
    have hM:doM E p a = ((wR p a.key a.val).1,(wR p a.key a.val).2.map (qN a)):=by unfold doM; rw [if_neg (by simp [n0]),if_neg (by simp [k1]),if_pos k2]
    subst hT
    rw [hM]
    simp (decide:=true) only [↓vS,vT,shb,shv,qb,qc,cellsOf,wr,qa,simprocAttr]
    have:=(h4 p a hp.ok hv)
    simp only [qq,xb,n0'] at this
    refine this.sc ?_
    simp (decide:=true) only [↓vS,vT,shb,shv,qb,qc,cellsOf,wr,qa,simprocAttr,qq]
    simp [vZ,vP,Tr.get_set,qq,qk,qH,qe,qj]
   | false =>
    have hM:doM E p a = (p,[XS a a.key]):=by unfold doM; rw [if_neg (by simp [n0]),if_neg (by simp [k1]),if_neg (by simp [k2])]; rfl
    subst hT
    rw [hM]
    simp (decide:=true) only [↓vS,vT,shb,shv,qb,qc,cellsOf,wr,qa,simprocAttr]
    refine ql6 g1 g2 g3 g4 p a a.key (Wk.mk _ _ [0,1,2] ?_ ?_ ?_ rfl)
    ·simp [vw]
    ·simp [vw,qq,xb,z9,qd,qk,qj,n0']
     try decide
    ·simp
 ·have n0':¬ a.sec = [83,101,114,118,105,99,101]:=n0
  have hM:doM E p a = (p,[XS a a.sec]):=by unfold doM; rw [if_pos n0]; rfl
  subst hT
  rw [hM]
  simp (decide:=true) only [↓vS,vT,shb,shv,qb,qc,cellsOf,wr,qa,simprocAttr,n0',ne_eq,not_false_eq_true]
  refine ql6 g1 g2 g3 g4 p a a.sec (Wk.mk _ _ [0,1,2] ?_ ?_ ?_ rfl)
  ·simp [vw]
  ·simp [vw,qq,xb,z9,qd,qk,qj]
   try decide
  ·simp
def Z2:IFn:=⟨[.cell 0 13 true],.seq (.r [.q 0 (.alloc [.nils,.i .u8 0,.nils,.i .u32 0,.i .u8 0,.nils,.nils,.i .u8 0,.i .u64 0,.b false,.b false,.b false,.b false])]) (.seq (.r [.q 1 (.build [.nils,.i .u8 0,.nils,.i .u32 0,.i .u8 0,.nils,.nils,.i .u8 0,.i .u64 0,.b false,.b false,.b false,.b false] [(3,1,(.c (.i .u32 2147483648)))]),.u (.store 13 (.t 0) (.t 1))]) (.ret))⟩
theorem qq8 (hc:qm P f Z2 = true):qg P f [] (.agg (qq Jl)):=by
 refine qg.mk hc rfl ?_
 simp only [Z2,qh,H0,mkT,mkH,trL,vI,simprocAttr]
 simp (decide:=true) only [↓vS,vT,shb,shv,qb,qc,cellsOf,wr,qa,simprocAttr]
 simp [vZ,qq,Jl,yZ,rI,rC]
noncomputable def yb (E:List UInt8->List (List UInt8) × Int) (l:List Asg) (j:Nat):Pol × List GNote:=(l.take j).foldl (doS E) (Jl,[])
theorem qd4 {E:List UInt8->List (List UInt8) × Int} {l:List Asg} {j:Nat} {a:Asg} (h:l[j]? = some a):yb E l (j + 1) = doS E (yb E l j) a:=by
 unfold yb
 rw [List.take_add_one,h,List.foldl_append]; rfl
def qj0 (E:List UInt8->List (List UInt8) × Int) (P:Program) (f:Nat):Prop:=∀ l:List Asg,l.length<=90->(∀ a ∈ l,a.val.length<=1000)->
 qg P f [.fz l.length (rA l)] (.tup [.agg (qq (QN E l).1),.fz (QN E l).2.length (rN (QN E l).2)])
def jW (f_policy_New f_policy_do f_policy_Failed:Nat):ICode:=.seq (.seq (.r [.m 28 (.t 5),.l 29 f_policy_Failed [.t 28]]) (.cond (.t 29) (.seq (.r [.q 30 (.build [.nils,.i .u8 0,.nils,.i .u32 0,.i .u8 0,.nils,.nils,.i .u8 0,.i .u64 0,.b false,.b false,.b false,.b false] []),.m 31 (.t 5),.u (.store 13 (.t 2) (.t 30)),.m 3 (.t 31)]) (.ret)) (.skip))) (.seq (.r [.q 32 (.loadN 13 (.t 4)),.m 33 (.t 5),.u (.store 13 (.t 2) (.t 32)),.m 3 (.t 33)]) (.ret))
def ye (f_policy_New f_policy_do f_policy_Failed:Nat):IFn:=⟨[.cell 2 13 true,.tmp 3],.seq (.r [.q 2 (.alloc [.nils,.i .u8 0,.nils,.i .u32 0,.i .u8 0,.nils,.nils,.i .u8 0,.i .u64 0,.b false,.b false,.b false,.b false]),.m 3 (.c (.nils))]) (.seq (.r [.l 10 f_policy_New [],.q 4 (.alloc [.nils,.i .u8 0,.nils,.i .u32 0,.i .u8 0,.nils,.nils,.i .u8 0,.i .u64 0,.b false,.b false,.b false,.b false]),.u (.store 13 (.t 4) (.t 10))]) (.seq (.r [.m 5 (.c (.nils))]) (.seq (.seq (.r [.m 11 (.t 0),.q 12 (.len false (.t 11)),.m 13 (.k 0)]) (.blk 0 (.loop (.seq (.r [.q 14 (.bin .lss (.t 13) (.t 12))]) (.seq (.cond (.t 14) (.skip) (.exit 0)) (.seq (.blk 1 (.seq (.r [.q 15 (.iAddrS 5 (.t 11) (.t 13)),.q 16 (.loadN 5 (.t 15)),.q 7 (.alloc [.s [],.i .i64 0,.s [],.s [],.s []]),.u (.store 5 (.t 7) (.t 16))]) (.seq (.r [.q 18 (.loadN 13 (.t 4)),.q 19 (.loadN 5 (.t 7)),.l 20 f_policy_do [.t 18,.t 19],.m 17 (.t 20),.q 21 (.ext (.t 17) 0),.q 22 (.ext (.t 17) 1),.q 8 (.alloc [.nils,.i .u8 0,.nils,.i .u32 0,.i .u8 0,.nils,.nils,.i .u8 0,.i .u64 0,.b false,.b false,.b false,.b false]),.u (.store 13 (.t 8) (.t 21)),.m 9 (.t 22)]) (.reg true [.q 23 (.loadN 13 (.t 8)),.m 24 (.t 5),.m 25 (.t 9),.q 26 (.appD 4 48 (.t 24) (.t 25) [8]),.u (.store 13 (.t 4) (.t 23)),.m 5 (.t 26)])))) (.r [.q 27 (.bin .add (.t 13) (.k 1)),.m 13 (.t 27)]))))))) (.cut (jW f_policy_New f_policy_do f_policy_Failed)))))⟩
theorem qoK {E:List UInt8->List (List UInt8) × Int} {g1 g2 g3:Nat} (h3:∀ l:List GNote,l.length<=qi->qg P g3 [.fz l.length (rN l)] (.b (ju l))) (l:List Asg) (p:Pol) (ns:List GNote) (hns:ns.length<=100000) (hl:yO E l = (p,ns)) {t':Tr AV} {h':Hp}
  (hw:Wk 0 t' h' (mkT [(2,.ptr 0 0),(4,.ptr 1 0),(5,.fz ns.length (rN ns))]) (mkH 0 [.cells 0 true false z9,.cells 0 true false (qq p)])) :
  S P 0 (jW g1 g2 g3) (jz [.cell 2 13 true,.tmp 3] fun v' h'=>Frz h' v' (.tup [.agg (qq (QN E l).1),.fz (QN E l).2.length (rN (QN E l).2)])) t' h':=by
 refine S.weak hw (qA ?_)
 simp only [jW,qq,z9,qh,H0,mkT,mkH,trL,vI,simprocAttr]
 simp only [↓vS,vT,shb,shv,qb,qc,cellsOf,wr,qa,simprocAttr]
 refine (h3 ns (by simp only [qi]; omega)).sc ?_
 cases k:ju ns with
 | true =>
  have e:QN E l = (yZ,ns):=by unfold QN; rw [hl,if_pos k]
  rw [e]
  simp (decide:=true) only [↓vS,vT,shb,shv,qb,qc,cellsOf,wr,qa,simprocAttr]
  simp [vZ,vP,Tr.get_set,qq,yZ,rI,rC,qH,qe]
 | false =>
  have e:QN E l = (p,ns):=by unfold QN; rw [hl,if_neg (by simp [k])]
  rw [e]
  simp (decide:=true) only [↓vS,vT,shb,shv,qb,qc,cellsOf,wr,qa,simprocAttr]
  simp [vZ,vP,Tr.get_set,qq,qk,qH,qe,qj]
theorem qro {E:List UInt8->List (List UInt8) × Int} {g1 g2 g3:Nat} (hE:vx E) (hc:qm P f (ye g1 g2 g3) = true) (h1:qg P g1 [] (.agg (qq Jl))) (h2:cDo E P g2) (h3:∀ l:List GNote,l.length<=qi->qg P g3 [.fz l.length (rN l)] (.b (ju l))):qj0 E P f:=by
 intro l hl hv
 refine qg.mk hc (by simp [qw,clo,wg]) ?_
 simp only [ye,qh,H0,mkT,mkH,trL,vI,simprocAttr]
 simp only [↓vS,vT,shb,shv,qb,qc,cellsOf,wr,qa,simprocAttr]
 refine h1.sc ?_
 simp (decide:=true) only [↓vS,vT,shb,shv,qb,qc,cellsOf,wr,qa,simprocAttr,qq]
 refine SL.loop (α:=Nat) (fun j=>[(2,.ptr 0 0),(4,.ptr 1 0),(5,.own 2 (yb E l j).2.length),(11,.fz l.length (rA l)),(12,.i .i64 l.length),(13,.i .i64 j)])
  (fun j=>[.cells 0 true false z9,.cells 0 true false (qq (yb E l j).1),.cells 4 true true (rN (yb E l j).2)]) (fun j=>j<=l.length) (fun j=>l.length - j) 0 [0,1,99] ?_ ?_ ?_ rfl ?_ ?_
 ·simp [vw,wg,yb]
 ·simp [vw,z9,qq,yb,Jl,yZ,rI,rC,rN,qd]
  try decide
 ·simp
 ·exact Nat.zero_le _
 rintro j hj G ih
 have hinv:PI (yb E l j).1:=qb7 hE _ _ PI.new
 have hlen:(yb E l j).2.length<=1001 * j:=by
  have:=qb8 E (l.take j) (Jl,[]) fun a ha=>hv a (List.mem_of_mem_take ha)
  simp at this
  unfold yb
  have h2:min j l.length<=j:=Nat.min_le_left _ _
  have:=Nat.le_trans this (Nat.mul_le_mul_left 1001 h2)
  simpa using this
 simp only [qh,H0,mkT,mkH,trL,vI,simprocAttr,z9]
 by_cases hlt:j < l.length
 ·have hx:l[j]? = some l[j]:=List.getElem?_eq_getElem hlt
  have hw:IntKind.wrap .i64 ((j:Int) + 1) = ((j + 1:Nat):Int):=by rw [qG (by omega) (by omega)]; omega
  have he:=qe7 hx
  have hb:=qds hlt
  have hva:=hv _ (List.getElem_mem hlt)
  have hnext:=qd4 (E:=E) hx
  have ih2:=ih (j + 1)
  rw [hnext] at ih2
  generalize yb E l j = s at hinv hlen ih2
  obtain ⟨p,ns⟩:=s
  dsimp only at hinv hlen ih2 ⊢
  generalize l[j] = a at he hva ih2
  have hdl:=qeL E p a
  simp only [doS] at ih2
  have hr1:ns.length + (doM E p a).2.length<=qi:=by simp only [qi]; omega
  have hr2:(ns.length + (doM E p a).2.length) * 48<=qi:=by simp only [qi]; omega
  simp (decide:=true) only [↓vS,vT,shb,shv,qb,qc,cellsOf,wr,qa,simprocAttr,hlt,he,hb,xb,qq]
  refine (h2 p a hinv hva).sc ?_
  generalize doM E p a = r at ih2 hdl hr1 hr2
  obtain ⟨q,new⟩:=r
  dsimp only at ih2 hdl hr1 hr2 ⊢
  simp (decide:=true) only [↓vS,vT,shb,shv,qb,qc,cellsOf,wr,qa,simprocAttr,qq]
  refine zS ?_
  have htk:(rN new).take (new.length * 4) = rN new:=List.take_of_length_le (by rw [kg]; omega)
  have htk2:(rN ns).take (ns.length * 4) = rN ns:=List.take_of_length_le (by rw [kg]; omega)
  have hap:rN ns++rN new = rN (ns++new):=Jp
  have hla:ns.length + new.length = (ns++new).length:=by simp
  simp (decide:=true) only [↓vS,vT,shb,shv,qb,qc,cellsOf,wr,qa,simprocAttr,qq,hr1,hr2,htk,htk2,qrm,kg,hap,hw]
  refine ih2 (by omega) (by omega) _ _ (Wk.mk _ _ [0,1,5] ?_ ?_ ?_ rfl)
  ·simp [vw,wg]
  ·simp [vw,z9,qq,qd,qk,qj,qe]
   try decide
  ·simp
 ·have hj':j = l.length:=by omega
  subst hj'
  have e:yb E l l.length = yO E l:=by unfold yb yO; rw [List.take_length]
  rw [e] at hlen ⊢
  generalize hp:yO E l = s at hlen
  obtain ⟨p,ns⟩:=s
  dsimp only at hlen ⊢
  clear ih
  simp only [↓vS,vT,shb,shv,qb,qc,cellsOf,wr,qa,simprocAttr,hlt,qq]
  refine S.weak (Wk.mk [(2,.ptr 0 0),(4,.ptr 1 0),(5,.own 2 ns.length)] [.cells 0 true false z9,.cells 0 true false (qq p),.cells 4 true true (rN ns)] [0,1,2] ?_ ?_ ?_ rfl) ?_
  ·simp [vw]
  ·simp [vw,z9,qq,qd,qk,qj,qe]
   try decide
  ·simp
  refine S.weak (Wk.freeze 2 4 4 rfl qe (Nat.zero_le _) (by simp)) ?_
  refine qoK h3 l p ns (by omega) hp (Wk.mk _ _ [0,1] ?_ ?_ ?_ rfl)
  ·simp [vw,mkT,fzv,kJ]
   try (intro h0; rw [h0]; rfl)
  ·simp [vw,mkH,trL,fzB,kJ,fzv,qq,z9,qd,qk,qj]
   try decide
  ·simp [mkH]
end Go.Kc
end
section
/- PolicyOther: what the law answers. Condition: the functions' texts are these. -/
namespace Go.Kc
variable {P:Program} {f:Nat}
def ZR (a:Asg):Bool:=xD yZ a || decide (200 < a.sec.length)
def Js (l:List Asg):Nat:=(l.map fun a=>a.val.length).sum
def j9 (l:List Asg):Bool:=decide (60 < l.length) || l.any ZR || decide (6000 < Js l)
theorem QY {p:Pol} {a:Asg} (h:xD p a = false):a.val.length<=1000:=by
 simp only [xD,Bool.or_eq_false_iff,decide_eq_false_iff_not] at h
 omega
theorem qgE {l:List Asg} {j:Nat} {a:Asg} (h:l[j]? = some a):Js (l.take (j + 1)) = Js (l.take j) + a.val.length:=by
 unfold Js; rw [List.take_add_one,h]; simp
theorem qlR {l:List Asg} (h:∀ a ∈ l,a.val.length<=1000):Js l<=1000 * l.length:=by
 induction l with
 | nil=>simp [Js]
 | cons a l ih =>
  have h1:=ih fun x hx=>h x (by simp [hx])
  have h2:=h a (by simp)
  unfold Js at *
  simp only [List.map_cons,List.sum_cons,List.length_cons]
  omega
theorem qd5 {l:List Asg} (h:j9 l = false):l.length<=60∧(∀ a ∈ l,a.val.length<=1000)∧∀ a ∈ l,xD yZ a = false:=by
 simp only [j9,Bool.or_eq_false_iff,decide_eq_false_iff_not,List.any_eq_false] at h
 obtain ⟨⟨h1,h2⟩,_⟩:=h
 have h3:∀ a ∈ l,xD yZ a = false:=fun a ha=>by
  have:=h2 a ha
  simp only [ZR,Bool.or_eq_true,not_or,Bool.not_eq_true] at this
  exact this.1
 exact ⟨by omega,fun a ha=>QY (h3 a ha),h3⟩
def wN (f_vestibulelaw17_Great:Nat):IFn:=⟨[.tmp 2],.seq (.r [.m 2 (.c (.b false))]) (.seq (.seq (.r [.m 5 (.t 0),.q 6 (.len false (.t 5)),.q 7 (.bin .gtr (.t 6) (.k 60))]) (.cond (.t 7) (.seq (.r [.m 2 (.c (.b true))]) (.ret)) (.skip))) (.seq (.r [.m 3 (.k 0)]) (.seq (.seq (.r [.m 4 (.k 0)]) (.blk 0 (.loop (.seq (.seq (.r [.m 8 (.t 4),.m 9 (.t 0),.q 10 (.len false (.t 9)),.q 11 (.bin .lss (.t 8) (.t 10))]) (.cond (.t 11) (.skip) (.exit 0))) (.seq (.blk 1 (.seq (.seq (.r [.q 14 (.build [.nils,.i .u8 0,.nils,.i .u32 0,.i .u8 0,.nils,.nils,.i .u8 0,.i .u64 0,.b false,.b false,.b false,.b false] []),.m 15 (.t 0),.m 16 (.t 4),.q 17 (.iAddrS 5 (.t 15) (.t 16)),.q 18 (.loadN 5 (.t 17)),.l 19 f_vestibulelaw17_Great [.t 14,.t 18],.m 20 (.t 19),.g 21 (.mov (.t 0)) 20 false,.g 22 (.mov (.t 4)) 20 false,.g 23 (.iAddrS 5 (.t 21) (.t 22)) 20 false,.g 24 (.fAddr 2 (.t 23)) 20 false,.g 25 (.load1 (.t 24)) 20 false,.g 26 (.len true (.t 25)) 20 false,.g 27 (.bin .gtr (.t 26) (.k 200)) 20 false,.q 28 (.pick (.t 20) (.c (.b true)) (.t 27))]) (.cond (.t 28) (.seq (.r [.m 2 (.c (.b true))]) (.ret)) (.skip))) (.r [.m 29 (.t 3),.m 30 (.t 0),.m 31 (.t 4),.q 32 (.iAddrS 5 (.t 30) (.t 31)),.q 33 (.fAddr 4 (.t 32)),.q 34 (.load1 (.t 33)),.q 35 (.len true (.t 34)),.q 36 (.bin .add (.t 29) (.t 35)),.m 3 (.t 36)]))) (.r [.m 12 (.t 4),.q 13 (.bin .add (.t 12) (.k 1)),.m 4 (.t 13)])))))) (.seq (.r [.m 37 (.t 3),.q 38 (.bin .gtr (.t 37) (.k 6000)),.m 2 (.t 38)]) (.ret)))))⟩
theorem qkI {g:Nat} (hc:qm P f (wN g) = true) (h1:∀ p a,qg P g [.agg (qq p),.agg (xb a)] (.b (xD p a))) (l:List Asg):qg P f [.fz l.length (rA l)] (.b (j9 l)):=by
 have h1z:∀ a,qg P g [.agg [.nils,.i .u8 0,.nils,.i .u32 0,.i .u8 0,.nils,.nils,.i .u8 0,.i .u64 0,.b false,.b false,.b false,.b false],.agg (xb a)] (.b (xD yZ a)):=fun a=>(h1 yZ a).coe fun h=>by
  simp [vZ,qq,yZ,rI,rC,xb]
 refine qg.mk hc (by simp [qw,clo,wg]) ?_
 simp only [wN,qh,H0,mkT,mkH,trL,vI,simprocAttr]
 by_cases k1:(60:Int) < l.length
 ·have hw:j9 l = true:=by simp [j9,(by omega:60 < l.length)]
  simp only [↓vS,vT,shb,shv,qb,qc,cellsOf,wr,qa,simprocAttr,k1]
  simp [vZ,hw]
 simp only [↓vS,vT,shb,shv,qb,qc,cellsOf,wr,qa,simprocAttr,k1]
 refine SL.loop (α:=Nat) (fun j=>[(0,.fz l.length (rA l)),(3,.i .i64 (Js (l.take j):Nat)),(4,.i .i64 j)]) (fun _=>[]) (fun j=>j<=l.length∧∀ a ∈ l.take j,ZR a = false) (fun j=>l.length - j) 0 [] ?_ ?_ ?_ rfl ?_ ?_
 ·simp [vw,wg,Js]
 ·trivial
 ·simp
 ·exact ⟨Nat.zero_le _,by simp⟩
 rintro j ⟨hj,hI⟩ G ih
 simp only [qh,H0,mkT,mkH,trL,vI,simprocAttr]
 by_cases hlt:j < l.length
 ·have hx:l[j]? = some l[j]:=List.getElem?_eq_getElem hlt
  have hw:IntKind.wrap .i64 ((j:Int) + 1) = ((j + 1:Nat):Int):=by rw [qG (by omega) (by omega)]; omega
  have he:=qe7 hx
  have hb:=qds hlt
  have hsum:=qgE hx
  have hle:Js (l.take j)<=1000 * j:=by
   have h2:=qlR (l:=l.take j) fun a ha=>by
    have:=hI a ha
    simp only [ZR,Bool.or_eq_false_iff] at this
    exact QY this.1
   have h3:(l.take j).length = j:=by simp; omega
   rw [h3] at h2; exact h2
  have hin:l[j] ∈ l:=List.getElem_mem hlt
  have g2:(rA l)[j * 5 + 2]? = some (.s l[j].sec):=qiX hx (i:=2) (by decide)
  have g4:(rA l)[j * 5 + 4]? = some (.s l[j].val):=qiX hx (i:=4) (by decide)
  generalize ha:l[j] = a at he hsum g2 g4 hin hx
  simp (decide:=true) only [↓vS,vT,shb,shv,qb,qc,cellsOf,wr,qa,simprocAttr,hlt,he,hb]
  refine (h1z a).sc ?_
  cases k2:xD yZ a with
  | true =>
   have hw:j9 l = true:=by
    have:l.any ZR = true:=List.any_eq_true.2 ⟨a,hin,by simp [ZR,k2]⟩
    simp [j9,this]
   simp only [↓vS,vT,shb,shv,qb,qc,cellsOf,wr,qa,simprocAttr]
   simp [vZ,hw]
  | false =>
   by_cases k3:(200:Int) < a.sec.length
   ·have hw:j9 l = true:=by
     have:l.any ZR = true:=List.any_eq_true.2 ⟨a,hin,by simp [ZR,(by omega:200 < a.sec.length)]⟩
     simp [j9,this]
    simp (decide:=true) only [↓vS,vT,shb,shv,qb,qc,cellsOf,wr,qa,simprocAttr,hlt,g2,k3]
    simp [vZ,hw]
   ·have hv:=QY k2
    have hw2:IntKind.wrap .i64 ((Js (l.take j):Nat) + (a.val.length:Int)) = ((Js (l.take (j + 1)):Nat):Int):=by rw [hsum,qG (by omega) (by omega)]; omega
    simp (decide:=true) only [↓vS,vT,shb,shv,qb,qc,cellsOf,wr,qa,simprocAttr,hlt,g2,g4,k3,hw,hw2]
    refine ih (j + 1) ⟨by omega,fun b hb=>?_⟩ (by omega) _ _ (Wk.mk _ _ [] ?_ ?_ ?_ rfl)
    ·rw [List.take_add_one,hx] at hb
     rcases List.mem_append.1 hb with hb | hb
     ·exact hI b hb
     ·simp at hb; subst hb; simp [ZR,k2]; omega
    ·simp [vw,wg]
    ·trivial
    ·simp
 ·have hjl:l.take j = l:=List.take_of_length_le (by omega)
  rw [hjl] at hI ⊢
  have hany:l.any ZR = false:=List.any_eq_false.2 fun a ha=>by simp [hI a ha]
  have e:j9 l = decide ((6000:Int) < (Js l:Nat)):=by
   unfold j9; rw [hany,decide_eq_false (by omega:¬ 60 < l.length)]
   simp only [Bool.or_self,Bool.false_or]
   exact decide_eq_decide.2 ⟨by omega,by omega⟩
  rw [e]
  simp only [↓vS,vT,shb,shv,qb,qc,cellsOf,wr,qa,simprocAttr,hlt]
  simp [vZ]
variable {E:List UInt8->List (List UInt8) × Int}
theorem qaf:∀ (l:List Asg) (p:Pol) (ns:List GNote),l.foldl (doS E) (p,ns) = ((l.foldl (doS E) (p,[])).1,ns++(l.foldl (doS E) (p,[])).2)
 | [],p,ns=>by simp
 | a :: l,p,ns=>by
  rw [List.foldl_cons,List.foldl_cons]
  have e1:doS E (p,ns) a = ((doM E p a).1,ns++(doM E p a).2):=rfl
  have e2:doS E (p,[]) a = ((doM E p a).1,[]++(doM E p a).2):=rfl
  rw [e1,e2,qaf l,qaf l _ ([]++_)]
  simp
def Zo:List UInt8:=[79,116,104,101,114]
def y6 (sec val:List UInt8):Asg:=⟨[103],7,sec,Zo,val⟩
def txO (sec:List UInt8):List UInt8:=(if sec = Zf then Zo else sec).take 60
def Zi (sec:List UInt8):GNote:=⟨[103],7,100,txO sec⟩
theorem qhD (p:Pol) (sec val:List UInt8):doM E p (y6 sec val) = (p,[Zi sec]):=by
 unfold doM Zi txO y6
 by_cases h:sec = Zf
 ·have h1:qf2 Zo = false:=by decide
  have h2:qf3 Zo = false:=by decide
  simp [h,h1,h2]
 ·simp [h]
theorem qaF (a b:List GNote):ju (a++b) = (ju a || ju b):=by simp [ju]
theorem qgs (l:List Asg) (k:Nat) (sec val:List UInt8):∃ p ns os,QN E l = (p,ns)∧QN E (l.take k++y6 sec val :: l.drop k) = (p,os)∧os.length = ns.length + 1∧Zi sec ∈ os:=by
 obtain ⟨p1,n1,h1⟩:∃ p1 n1,(l.take k).foldl (doS E) (Jl,[]) = (p1,n1):=⟨_,_,rfl⟩
 obtain ⟨p2,n2,h2⟩:∃ p2 n2,(l.drop k).foldl (doS E) (p1,[]) = (p2,n2):=⟨_,_,rfl⟩
 have e1:yO E l = (p2,n1++n2):=by
  unfold yO
  conv=>lhs; rw [← List.take_append_drop k l]
  rw [List.foldl_append,h1,qaf,h2]
 have e2:yO E (l.take k++y6 sec val :: l.drop k) = (p2,n1++(Zi sec :: n2)):=by
  unfold yO
  rw [List.foldl_append,h1,List.foldl_cons]
  have:doS E (p1,n1) (y6 sec val) = (p1,n1++[Zi sec]):=by
   unfold doS; dsimp only; rw [qhD]
  rw [this,qaf,h2]
  simp
 have e3:ju (n1++(Zi sec :: n2)) = ju (n1++n2):=by
  have:ju (Zi sec :: n2) = ju n2:=by
   have hw:Z5 100 = true:=by decide
   simp [ju,Zi,hw]
  rw [qaF,qaF,this]
 unfold QN
 rw [e1,e2]
 dsimp only
 rw [e3]
 split
 ·exact ⟨_,_,_,rfl,rfl,by simp; omega,by simp⟩
 ·exact ⟨_,_,_,rfl,rfl,by simp; omega,by simp⟩
def isN (tx:List UInt8) (n:GNote):Bool:=decide (n.file = [103]) && decide (n.line = 7) && decide (n.err = 100) && decide (n.text = tx)
theorem qh8 (sec:List UInt8):isN (txO sec) (Zi sec) = true:=by simp [isN,Zi]
def zi (f_vestibulelaw19_Great f_vestibulelaw19_awake f_policy_Resolve f_policy_Same:Nat):ICode:=.seq (.r [.m 17 (.k 0)]) (.seq (.seq (.r [.m 18 (.k 0)]) (.blk 0 (.loop (.seq (.seq (.r [.m 79 (.t 18),.m 80 (.t 15),.q 81 (.len false (.t 80)),.q 82 (.bin .lss (.t 79) (.t 81))]) (.cond (.t 82) (.skip) (.exit 0))) (.seq (.blk 1 (.seq (.r [.m 85 (.t 15),.m 86 (.t 18),.q 87 (.iAddrS 4 (.t 85) (.t 86)),.q 88 (.loadN 4 (.t 87)),.m 89 (.t 16),.q 90 (.build [.s [],.i .i64 0,.i .i64 0,.s []] [(0,1,(.c (.s [103]))),(1,1,(.k 7)),(2,1,(.k 100)),(3,1,(.t 89))]),.q 91 (.eqA false [.s,.i,.i,.s] (.t 88) (.t 90))]) (.cond (.t 91) (.r [.m 92 (.t 17),.q 93 (.bin .add (.t 92) (.k 1)),.m 17 (.t 93)]) (.skip)))) (.r [.m 83 (.t 18),.q 84 (.bin .add (.t 83) (.k 1)),.m 18 (.t 84)])))))) (.seq (.r [.q 94 (.loadN 13 (.t 12)),.q 95 (.loadN 13 (.t 14)),.l 96 f_policy_Same [.t 94,.t 95],.m 97 (.t 96),.g 98 (.mov (.t 15)) 97 true,.g 99 (.len false (.t 98)) 97 true,.g 100 (.mov (.t 13)) 97 true,.g 101 (.len false (.t 100)) 97 true,.g 102 (.bin .add (.t 101) (.k 1)) 97 true,.g 103 (.bin .eql (.t 99) (.t 102)) 97 true,.q 104 (.pick (.t 97) (.t 103) (.c (.b false))),.m 105 (.t 104),.g 106 (.mov (.t 17)) 105 true,.g 107 (.bin .gtr (.t 106) (.k 0)) 105 true,.q 108 (.pick (.t 105) (.t 107) (.c (.b false))),.m 109 (.t 108),⟨(some 110),.callF f_vestibulelaw19_awake [],(some (109,true))⟩,.q 111 (.pick (.t 109) (.t 110) (.c (.b false))),.m 8 (.t 111)]) (.ret)))
def zH (f_vestibulelaw19_Great f_vestibulelaw19_awake f_policy_Resolve f_policy_Same:Nat):ICode:=.seq (.r [.m 71 (.t 1),.m 16 (.t 71)]) (.seq (.seq (.r [.m 72 (.t 1),.q 73 (.bin .eql (.t 72) (.c (.s [83,101,114,118,105,99,101])))]) (.cond (.t 73) (.r [.m 16 (.c (.s [79,116,104,101,114]))]) (.skip))) (.seq (.seq (.r [.m 74 (.t 16),.q 75 (.len true (.t 74)),.q 76 (.bin .gtr (.t 75) (.k 60))]) (.cond (.t 76) (.r [.m 77 (.t 16),.q 78 (.slcStr (.t 77) none (some (.k 60))),.m 16 (.t 78)]) (.skip))) (.cut (zi f_vestibulelaw19_Great f_vestibulelaw19_awake f_policy_Resolve f_policy_Same))))
def zG (f_vestibulelaw19_Great f_vestibulelaw19_awake f_policy_Resolve f_policy_Same:Nat):ICode:=.seq (.r [.m 62 (.t 0),.l 63 f_policy_Resolve [.t 62],.m 61 (.t 63),.q 64 (.ext (.t 61) 0),.q 65 (.ext (.t 61) 1),.q 12 (.alloc [.nils,.i .u8 0,.nils,.i .u32 0,.i .u8 0,.nils,.nils,.i .u8 0,.i .u64 0,.b false,.b false,.b false,.b false]),.u (.store 13 (.t 12) (.t 64)),.m 13 (.t 65)]) (.seq (.r [.m 67 (.t 11),.l 68 f_policy_Resolve [.t 67],.m 66 (.t 68),.q 69 (.ext (.t 66) 0),.q 70 (.ext (.t 66) 1),.q 14 (.alloc [.nils,.i .u8 0,.nils,.i .u32 0,.i .u8 0,.nils,.nils,.i .u8 0,.i .u64 0,.b false,.b false,.b false,.b false]),.u (.store 13 (.t 14) (.t 69)),.m 15 (.t 70)]) (.cut (zH f_vestibulelaw19_Great f_vestibulelaw19_awake f_policy_Resolve f_policy_Same)))
def zm (f_vestibulelaw19_Great f_vestibulelaw19_awake f_policy_Resolve f_policy_Same:Nat):ICode:=.seq (.reg true [.q 48 (.buildS 0 [.s [],.i .i64 0,.s [],.s [],.s []] []),.m 49 (.t 0),.m 50 (.t 10),.q 51 (.slcS 5 (.t 49) none (some (.t 50)) none),.q 52 (.appF 5 72 (.t 48) (.t 51)),.q 53 (.loadN 5 (.t 9)),.q 54 (.buildS 1 [.s [],.i .i64 0,.s [],.s [],.s []] [(0,5,(.t 53))]),.q 55 (.app 5 72 true (.t 52) (.t 54)),.m 11 (.t 55)]) (.seq (.r [.m 56 (.t 11),.m 57 (.t 0),.m 58 (.t 10),.q 59 (.slcS 5 (.t 57) (some (.t 58)) none none),.q 60 (.app 5 72 true (.t 56) (.t 59)),.m 11 (.t 60)]) (.cut (zG f_vestibulelaw19_Great f_vestibulelaw19_awake f_policy_Resolve f_policy_Same)))
def jq (f_vestibulelaw19_Great f_vestibulelaw19_awake f_policy_Resolve f_policy_Same:Nat):IFn:=⟨[.tmp 8],.seq (.r [.m 8 (.c (.b false))]) (.seq (.seq (.r [.m 19 (.t 0),.l 20 f_vestibulelaw19_Great [.t 19],.m 21 (.t 20),.g 22 (.mov (.t 0)) 21 false,.g 23 (.len false (.t 22)) 21 false,.g 24 (.bin .gtr (.t 23) (.k 59)) 21 false,.q 25 (.pick (.t 21) (.c (.b true)) (.t 24)),.m 26 (.t 25),.g 27 (.mov (.t 1)) 26 false,.g 28 (.len true (.t 27)) 26 false,.g 29 (.bin .gtr (.t 28) (.k 100)) 26 false,.q 30 (.pick (.t 26) (.c (.b true)) (.t 29)),.m 31 (.t 30),.g 32 (.mov (.t 3)) 31 false,.g 33 (.len true (.t 32)) 31 false,.g 34 (.bin .gtr (.t 33) (.k 100)) 31 false,.q 35 (.pick (.t 31) (.c (.b true)) (.t 34))]) (.cond (.t 35) (.seq (.r [.l 36 f_vestibulelaw19_awake [],.m 8 (.t 36)]) (.ret)) (.skip))) (.seq (.r [.m 37 (.t 1),.m 38 (.t 3),.q 39 (.build [.s [],.i .i64 0,.s [],.s [],.s []] [(0,1,(.c (.s [103]))),(1,1,(.k 7)),(2,1,(.t 37)),(3,1,(.c (.s [79,116,104,101,114]))),(4,1,(.t 38))]),.q 9 (.alloc [.s [],.i .i64 0,.s [],.s [],.s []]),.u (.store 5 (.t 9) (.t 39))]) (.seq (.r [.m 40 (.t 2),.q 41 (.cvInt .u64 (.t 40)),.m 42 (.t 0),.q 43 (.len false (.t 42)),.q 44 (.bin .add (.t 43) (.k 1)),.q 45 (.cvInt .u64 (.t 44)),.q 46 (.bin .rem (.t 41) (.t 45)),.q 47 (.cvInt .i64 (.t 46)),.m 10 (.t 47)]) (.cut (zm f_vestibulelaw19_Great f_vestibulelaw19_awake f_policy_Resolve f_policy_Same)))))⟩
section
variable {g1 g2 g3 g4:Nat}
theorem qgo (h2:qg P g2 [] (.b true)) (h4:X5 P g4) (p:Pol) (hp:PolOk p) (ns os:List GNote) (hn:os.length<=1000000) (hl:os.length = ns.length + 1) (tx:List UInt8) (hm:∃ n ∈ os,isN tx n = true) {t':Tr AV} {h':Hp}
  (hw:Wk 0 t' h' (mkT [(12,.ptr 0 0),(13,.fz ns.length (rN ns)),(14,.ptr 1 0),(15,.fz os.length (rN os)),(16,.s tx)]) (mkH 0 [.cells 0 true false (qq p),.cells 0 true false (qq p)])) :
  S P 0 (zi g1 g2 g3 g4) (jz [.tmp 8] fun v' h'=>Frz h' v' (.b true)) t' h':=by
 refine S.weak hw (qA ?_)
 simp only [zi,qq,qh,H0,mkT,mkH,trL,vI,simprocAttr]
 simp only [↓vS,vT,shb,shv,qb,qc,cellsOf,wr,qa,simprocAttr]
 refine SL.loop (α:=Nat) (fun j=>[(12,.ptr 0 0),(13,.fz ns.length (rN ns)),(14,.ptr 1 0),(15,.fz os.length (rN os)),(16,.s tx),(17,.i .i64 (((os.take j).filter (isN tx)).length:Nat)),(18,.i .i64 j)])
  (fun _=>[.cells 0 true false (qq p),.cells 0 true false (qq p)]) (fun j=>j<=os.length) (fun j=>os.length - j) 0 [0,1] ?_ ?_ ?_ rfl ?_ ?_
 ·simp [vw,qe]
 ·simp [vw,qq,qd,qk,qj]
 ·simp
 ·exact Nat.zero_le _
 rintro j hj G ih
 simp only [qh,H0,mkT,mkH,trL,vI,simprocAttr,qq]
 by_cases hlt:j < os.length
 ·have hx : os[j]? = some os[j]:=List.getElem?_eq_getElem hlt
  have hw:IntKind.wrap .i64 ((j:Int) + 1) = ((j + 1:Nat):Int):=by rw [qG (by omega) (by omega)]; omega
  have he:=qlC hx
  have hb:=qi0 hlt
  have hfl:((os.take j).filter (isN tx)).length<=j:=by
   refine Nat.le_trans (List.length_filter_le _ _) ?_; simp; omega
  have hnext:(os.take (j + 1)).filter (isN tx) = (os.take j).filter (isN tx)++(if isN tx os[j] = true then [os[j]] else []):=by
   rw [List.take_add_one,hx,List.filter_append]
   simp [List.filter_cons]
  have ih2:=ih (j + 1)
  rw [hnext] at ih2
  generalize hL:(os.take j).filter (isN tx) = L at hfl ih2
  generalize os[j] = n at he ih2
  have hwc:IntKind.wrap .i64 ((L.length:Int) + 1) = ((L.length + 1:Nat):Int):=by rw [qG (by omega) (by omega)]; omega
  by_cases f1:n.file = [103]
  ·by_cases f2:n.line = 7
   ·by_cases f3:n.err = 100
    ·by_cases f4:n.text = tx
     ·have hi:isN tx n = true:=by simp [isN,f1,f2,f3,f4]
      rw [if_pos hi,List.length_append] at ih2
      simp (decide:=true) only [↓vS,vT,shb,shv,qb,qc,cellsOf,wr,qa,simprocAttr,hlt,he,hb,kj,f1,f2,f3,f4,hwc,hw]
      refine ih2 (by omega) (by omega) _ _ (Wk.mk _ _ [0,1] ?_ ?_ ?_ rfl)
      ·simp [vw,qe]
      ·simp [vw,qq,qd,qk,qj]
      ·simp
     ·have hi:isN tx n = false:=by simp [isN,f4]
      rw [if_neg (by simp [hi]),List.append_nil] at ih2
      simp (decide:=true) only [↓vS,vT,shb,shv,qb,qc,cellsOf,wr,qa,simprocAttr,hlt,he,hb,kj,f1,f2,f3,f4,hw]
      refine ih2 (by omega) (by omega) _ _ (Wk.mk _ _ [0,1] ?_ ?_ ?_ rfl)
      ·simp [vw,qe]
      ·simp [vw,qq,qd,qk,qj]
      ·simp
    ·have hi:isN tx n = false:=by simp [isN,f3]
     rw [if_neg (by simp [hi]),List.append_nil] at ih2
     simp (decide:=true) only [↓vS,vT,shb,shv,qb,qc,cellsOf,wr,qa,simprocAttr,hlt,he,hb,kj,f1,f2,f3,hw]
     refine ih2 (by omega) (by omega) _ _ (Wk.mk _ _ [0,1] ?_ ?_ ?_ rfl)
     ·simp [vw,qe]
     ·simp [vw,qq,qd,qk,qj]
     ·simp
   ·have hi:isN tx n = false:=by simp [isN,f2]
    rw [if_neg (by simp [hi]),List.append_nil] at ih2
    simp (decide:=true) only [↓vS,vT,shb,shv,qb,qc,cellsOf,wr,qa,simprocAttr,hlt,he,hb,kj,f1,f2,hw]
    refine ih2 (by omega) (by omega) _ _ (Wk.mk _ _ [0,1] ?_ ?_ ?_ rfl)
    ·simp [vw,qe]
    ·simp [vw,qq,qd,qk,qj]
    ·simp
  ·have hi:isN tx n = false:=by simp [isN,f1]
   rw [if_neg (by simp [hi]),List.append_nil] at ih2
   simp (decide:=true) only [↓vS,vT,shb,shv,qb,qc,cellsOf,wr,qa,simprocAttr,hlt,he,hb,kj,f1,hw]
   refine ih2 (by omega) (by omega) _ _ (Wk.mk _ _ [0,1] ?_ ?_ ?_ rfl)
   ·simp [vw,qe]
   ·simp [vw,qq,qd,qk,qj]
   ·simp
 ·have hjl:os.take j = os:=List.take_of_length_le (by omega)
  have hpos:(0:Int) < ((os.filter (isN tx)).length:Nat):=by
   obtain ⟨n,hn1,hn2⟩:=hm
   have:n ∈ os.filter (isN tx):=List.mem_filter.2 ⟨hn1,hn2⟩
   have:=List.length_pos_of_mem this
   omega
  have hw1:IntKind.wrap .i64 ((ns.length:Int) + 1) = (os.length:Int):=by rw [qG (by omega) (by omega)]; omega
  rw [hjl]
  generalize (os.filter (isN tx)).length = c at hpos
  clear ih
  simp only [↓vS,vT,shb,shv,qb,qc,cellsOf,wr,qa,simprocAttr,hlt]
  have:=h4 p p hp
  rw [qcv] at this
  simp only [qq] at this
  refine this.sc ?_
  simp (decide:=true) only [↓vS,vT,shb,shv,qb,qc,cellsOf,wr,qa,simprocAttr,hw1,hpos]
  refine h2.sc ?_
  simp (decide:=true) only [↓vS,vT,shb,shv,qb,qc,cellsOf,wr,qa,simprocAttr]
  simp [vZ]
theorem qiQ (h2:qg P g2 [] (.b true)) (h4:X5 P g4) (p:Pol) (hp:PolOk p) (ns os:List GNote) (hn:os.length<=1000000) (hl:os.length = ns.length + 1) (sec:List UInt8) (hs:sec.length<=100) (hm:Zi sec ∈ os) {t':Tr AV} {h':Hp}
  (hw:Wk 0 t' h' (mkT [(1,.s sec),(12,.ptr 0 0),(13,.fz ns.length (rN ns)),(14,.ptr 1 0),(15,.fz os.length (rN os))]) (mkH 0 [.cells 0 true false (qq p),.cells 0 true false (qq p)])) :
  S P 0 (zH g1 g2 g3 g4) (jz [.tmp 8] fun v' h'=>Frz h' v' (.b true)) t' h':=by
 refine S.weak hw (qA ?_)
 have go:∀ tx,tx = txO sec->∀ {t':Tr AV} {h':Hp},Wk 0 t' h' (mkT [(12,.ptr 0 0),(13,.fz ns.length (rN ns)),(14,.ptr 1 0),(15,.fz os.length (rN os)),(16,.s tx)]) (mkH 0 [.cells 0 true false (qq p),.cells 0 true false (qq p)])->
   S P 0 (zi g1 g2 g3 g4) (jz [.tmp 8] fun v' h'=>Frz h' v' (.b true)) t' h':=by
  rintro tx rfl t' h' hw
  exact qgo h2 h4 p hp ns os hn hl _ ⟨_,hm,qh8 sec⟩ hw
 simp only [zH,qq,qh,H0,mkT,mkH,trL,vI,simprocAttr]
 by_cases h:sec = Zf
 ·have h0:sec = [83,101,114,118,105,99,101]:=h
  simp (decide:=true) only [↓vS,vT,shb,shv,qb,qc,cellsOf,wr,qa,simprocAttr,h0]
  refine go _ (by unfold txO; rw [if_pos h]; first | done | rfl) (Wk.mk _ _ [0,1] ?_ ?_ ?_ rfl)
  ·simp [vw,qe,Zo]
  ·simp [vw,qq,qd,qk,qj]
  ·simp
 ·have h0:¬ sec = [83,101,114,118,105,99,101]:=h
  by_cases h60:(60:Int) < sec.length
  ·have h1:60<=sec.length:=by omega
   simp (decide:=true) only [↓vS,vT,shb,shv,qb,qc,cellsOf,wr,qa,simprocAttr,h0,h60,h1,List.drop_zero]
   refine go (sec.take 60) (by unfold txO; rw [if_neg h]) (Wk.mk _ _ [0,1] ?_ ?_ ?_ rfl)
   ·simp [vw,qe]
   ·simp [vw,qq,qd,qk,qj]
   ·simp
  ·simp (decide:=true) only [↓vS,vT,shb,shv,qb,qc,cellsOf,wr,qa,simprocAttr,h0,h60]
   refine go sec (by unfold txO; rw [if_neg h,List.take_of_length_le (by omega)]) (Wk.mk _ _ [0,1] ?_ ?_ ?_ rfl)
   ·simp [vw,qe]
   ·simp [vw,qq,qd,qk,qj]
   ·simp
theorem qdq (hE:vx E) (h2:qg P g2 [] (.b true)) (h3:qj0 E P g3) (h4:X5 P g4) (l:List Asg) (hl:l.length<=60) (hv:∀ a ∈ l,a.val.length<=1000) (k:Nat) (sec val:List UInt8) (hs:sec.length<=100) (hval:val.length<=100) (m:List Asg) (hm:m = l.take k++y6 sec val :: l.drop k) {t':Tr AV} {h':Hp}
  (hw:Wk 0 t' h' (mkT [(0,.fz l.length (rA l)),(1,.s sec),(11,.own 0 m.length)]) (mkH 0 [.cells 5 true true (rA m)])) :
  S P 0 (zG g1 g2 g3 g4) (jz [.tmp 8] fun v' h'=>Frz h' v' (.b true)) t' h':=by
 refine S.weak hw (qA ?_)
 obtain ⟨p,ns,os,r1,r2,r3,r4⟩:=qgs (E:=E) l k sec val
 rw [← hm] at r2
 have hml:m.length<=61:=by rw [hm]; simp; omega
 have hmv:∀ a ∈ m,a.val.length<=1000:=by
  intro a ha
  rw [hm] at ha
  rcases List.mem_append.1 ha with ha | ha
  ·exact hv a (List.mem_of_mem_take ha)
  ·rcases List.mem_cons.1 ha with rfl | ha
   ·show val.length<=1000; omega
   ·exact hv a (List.mem_of_mem_drop ha)
 have hp:PolOk p:=by
  have:p = (QN E l).1:=by rw [r1]
  rw [this]
  unfold QN
  split
  ·exact ⟨by simp [yZ],by simp [yZ],by simp [yZ],by simp [yZ]⟩
  ·exact (qb7 hE l _ PI.new).ok
 have hol:os.length<=1000000:=by
  have h1:os = (QN E m).2:=by rw [r2]
  have h2:(QN E m).2 = (yO E m).2:=by unfold QN; split <;> rfl
  have h3:=qb8 E m (Jl,[]) hmv
  rw [h1,h2]
  unfold yO
  simp at h3
  omega
 have c1:=h3 l (by omega) hv
 have c2:=h3 m (by omega) hmv
 rw [r1] at c1
 rw [r2] at c2
 dsimp only at c1 c2
 simp only [zG,qh,H0,mkT,mkH,trL,vI,simprocAttr]
 simp only [↓vS,vT,shb,shv,qb,qc,cellsOf,wr,qa,simprocAttr]
 refine c1.sc ?_
 simp (decide:=true) only [↓vS,vT,shb,shv,qb,qc,cellsOf,wr,qa,simprocAttr,qq]
 refine c2.give [(0,.cells 5 true true (rA m))] (by simp [Tr.get_set]) rfl ?_ ?_
 ·simp [vZ,vP,Tr.get_set,qH wg,trP]
  try (intro h0; rw [h0]; rfl)
 simp only [qf4,qid,qcf]
 simp (decide:=true) only [↓vS,vT,shb,shv,qb,qc,cellsOf,wr,qa,simprocAttr,qq]
 refine qiQ h2 h4 p hp ns os hol r3 sec hs r4 (Wk.mk _ _ [1,2] ?_ ?_ ?_ rfl)
 ·simp [vw,qe]
 ·simp [vw,qq,qd,qk,qj]
 ·simp
theorem qlB (l:List Asg) (k:Nat):(rA l).take (k * 5) = rA (l.take k):=X8 QS l k
theorem qlA (l:List Asg) (k:Nat):(rA l).drop (k * 5) = rA (l.drop k):=yM QS l k
theorem qiP (hE:vx E) (h2:qg P g2 [] (.b true)) (h3:qj0 E P g3) (h4:X5 P g4) (l:List Asg) (hl:l.length<=60) (hv:∀ a ∈ l,a.val.length<=1000) (k:Nat) (hk:k<=l.length) (sec val:List UInt8) (hs:sec.length<=100) (hval:val.length<=100) {t':Tr AV} {h':Hp}
  (hw:Wk 0 t' h' (mkT [(0,.fz l.length (rA l)),(1,.s sec),(9,.ptr 0 0),(10,.i .i64 k)]) (mkH 0 [.cells 0 true false (xb (y6 sec val))])) :
  S P 0 (zm g1 g2 g3 g4) (jz [.tmp 8] fun v' h'=>Frz h' v' (.b true)) t' h':=by
 refine S.weak hw (qA ?_)
 have hkl:((k:Nat):Int)<=l.length:=by omega
 have hk0:(0:Int)<=k:=by omega
 have hlk:(l.take k).length = k:=by simp; omega
 have hld:(l.drop k).length = l.length - k:=by simp
 have one:xb (y6 sec val) = rA [y6 sec val]:=by simp [rA]
 have q1:l.length * 5<=(rA l).length:=by rw [Qr]; omega
 have q2:(rA l).take (l.length * 5) = rA l:=List.take_of_length_le (by rw [Qr]; omega)
 have r1:1 + l.length<=qi:=by simp only [qi]; omega
 have r2:(1 + l.length) * 72<=qi:=by simp only [qi]; omega
 by_cases h0:k = 0
 ·subst h0
  have ap:[AV.s [103],.i .i64 7,.s sec,.s Zo,.s val]++rA l = rA (l.take 0++y6 sec val :: l.drop 0):=rfl
  simp only [zm,xb,y6,qh,H0,mkT,mkH,trL,vI,simprocAttr]
  refine zS ?_
  simp (decide:=true) only [↓vS,vT,shb,shv,qb,qc,cellsOf,wr,qa,simprocAttr,hkl,hk0,q1,q2,r1,r2,qmq,Qr,List.drop_zero,Nat.mul_one]
  refine qdq hE h2 h3 h4 l hl hv 0 sec val hs hval _ rfl (Wk.mk _ _ [4] ?_ ?_ ?_ rfl)
  ·simp [vw,wg]
   omega
  ·simp [vw]
   exact (NVs.refl wg:NVs _ _ (rA (y6 sec val :: l)) _)
  ·simp
 ·have r3:k<=qi:=by simp only [qi]; omega
  have r4:k * 72<=qi:=by simp only [qi]; omega
  have r5:k + 1<=qi:=by simp only [qi]; omega
  have r6:(k + 1) * 72<=qi:=by simp only [qi]; omega
  have r7:k + 1 + (l.length - k)<=qi:=by simp only [qi]; omega
  have r8:(k + 1 + (l.length - k)) * 72<=qi:=by simp only [qi]; omega
  have h0':¬ k<=0:=by omega
  have q3:(rA (l.take k)).length = k * 5:=by rw [Qr,hlk]
  have q4:k * 5<=(rA l).length:=by rw [Qr]; omega
  have q5:(rA (l.drop k)).length = (l.length - k) * 5:=by rw [Qr,hld]
  have q6:(rA (l.take k)).take (k * 5) = rA (l.take k):=List.take_of_length_le (by omega)
  have q7:(rA (l.drop k)).take ((l.length - k) * 5) = rA (l.drop k):=List.take_of_length_le (by omega)
  have q8:l.length * 5 - k * 5 = (l.length - k) * 5:=by omega
  have q9:k * 5 + (l.length - k) * 5<=(rA l).length:=by rw [Qr]; omega
  have a1:rA (l.take k)++[AV.s [103],.i .i64 7,.s sec,.s Zo,.s val] = rA (l.take k++[y6 sec val]):=by rw [← qiW]; rfl
  have a2:rA (l.take k++[y6 sec val])++rA (l.drop k) = rA (l.take k++y6 sec val :: l.drop k):=by rw [qiW,List.append_assoc]; rfl
  have a3:(rA (l.take k++[y6 sec val])).length = (k + 1) * 5:=by rw [Qr,List.length_append,hlk]; rfl
  have a4:k + 1 + (l.length - k) = (l.take k++y6 sec val :: l.drop k).length:=by rw [List.length_append,hlk,List.length_cons,hld]; omega
  simp only [zm,xb,y6,qh,H0,mkT,mkH,trL,vI,simprocAttr]
  refine zS ?_
  simp (decide:=true) only [↓vS,vT,shb,shv,qb,qc,cellsOf,wr,qa,simprocAttr,a1,a2,a3,hkl,hk0,h0,h0',hk,q1,q2,q3,q4,q5,q6,q7,q8,q9,r1,r2,r3,r4,r5,r6,r7,r8,qmq,qlB,qlA,List.drop_zero,Nat.mul_one,Nat.sub_zero,Nat.zero_mul]
  refine qdq hE h2 h3 h4 l hl hv k sec val hs hval _ rfl (Wk.mk _ _ [5] ?_ ?_ ?_ rfl)
  ·simp [vw,wg]
   omega
  ·simp [vw,qd,wg]
  ·simp
theorem policyOther (hc:qm P f (jq g1 g2 g3 g4) = true) (hE:vx E) (h1:∀ l,qg P g1 [.fz l.length (rA l)] (.b (j9 l))) (h2:qg P g2 [] (.b true)) (h3:qj0 E P g3) (h4:X5 P g4) (l:List Asg) (sec:List UInt8) (at':Int) (val:List UInt8) :
  qg P f [.fz l.length (rA l),.s sec,.i .i64 at',.s val] (.b true):=by
 refine qg.mk hc (by simp [qw,clo,wg]) ?_
 simp only [jq,qh,H0,mkT,mkH,trL,vI,simprocAttr]
 simp only [↓vS,vT,shb,shv,qb,qc,cellsOf,wr,qa,simprocAttr]
 refine (h1 l).sc ?_
 cases hG:j9 l with
 | true =>
  simp only [↓vS,vT,shb,shv,qb,qc,cellsOf,wr,qa,simprocAttr]
  refine h2.sc ?_
  simp only [↓vS,vT,shb,shv,qb,qc,cellsOf,wr,qa,simprocAttr]
  simp [vZ]
 | false =>
  obtain ⟨hl,hv,_⟩:=qd5 hG
  by_cases k1:(59:Int) < l.length
  ·simp only [↓vS,vT,shb,shv,qb,qc,cellsOf,wr,qa,simprocAttr,k1]
   refine h2.sc ?_
   simp only [↓vS,vT,shb,shv,qb,qc,cellsOf,wr,qa,simprocAttr]
   simp [vZ]
  by_cases k2:(100:Int) < sec.length
  ·simp only [↓vS,vT,shb,shv,qb,qc,cellsOf,wr,qa,simprocAttr,k1,k2]
   refine h2.sc ?_
   simp only [↓vS,vT,shb,shv,qb,qc,cellsOf,wr,qa,simprocAttr]
   simp [vZ]
  by_cases k3:(100:Int) < val.length
  ·simp only [↓vS,vT,shb,shv,qb,qc,cellsOf,wr,qa,simprocAttr,k1,k2,k3]
   refine h2.sc ?_
   simp only [↓vS,vT,shb,shv,qb,qc,cellsOf,wr,qa,simprocAttr]
   simp [vZ]
  have hw1:IntKind.wrap .i64 ((l.length:Int) + 1) = (l.length:Int) + 1:=qG (by omega) (by omega)
  have hw2:IntKind.wrap .u64 ((l.length:Int) + 1) = (l.length:Int) + 1:=qcF (by omega) (by omega)
  have hnz:(l.length:Int) + 1≠0:=by omega
  have hu:0<=IntKind.wrap .u64 at':=by
   show 0<=Int.emod _ _
   exact Int.emod_nonneg _ (by decide)
  obtain ⟨k,hk,hkl⟩:∃ k:Nat,IntKind.wrap .i64 ((IntKind.wrap .u64 at').tmod ((l.length:Int) + 1)) = (k:Int)∧k<=l.length:=by
   have h3:=Int.emod_nonneg (IntKind.wrap .u64 at') hnz
   have h4:=Int.emod_lt_of_pos (IntKind.wrap .u64 at') (show (0:Int) < (l.length:Int) + 1 by omega)
   rw [Int.tmod_eq_emod_of_nonneg hu]
   refine ⟨((IntKind.wrap .u64 at') % ((l.length:Int) + 1)).toNat,?_,by omega⟩
   rw [qG (by omega) (by omega)]; omega
  simp only [↓vS,vT,shb,shv,qb,qc,cellsOf,wr,qa,simprocAttr,k1,k2,k3,hw1,hw2,↓qjP hnz,hk]
  refine qiP hE h2 h3 h4 l hl hv k hkl sec val (by omega) (by omega) (Wk.mk _ _ [0] ?_ ?_ ?_ rfl)
  ·simp [vw,wg]
  ·simp [vw,xb,y6,Zo,qd]
  ·simp
end
end Go.Kc
end
