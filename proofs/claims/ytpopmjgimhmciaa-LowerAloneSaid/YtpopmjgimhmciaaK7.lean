/- Part 7 of the abstract machine and of the functions' walks. Conditions: with each theorem. -/
import Derived.Test.YtpopmjgimhmciaaK6
set_option linter.unusedSimpArgs false
set_option linter.unusedVariables false
set_option linter.unnecessarySimpa false
section
/- May a list be: what fold.May answers. Condition: the function's text is this. -/
namespace Go.Kc
variable {P:Program} {f:Nat}
def okC (c:GCall):Bool:=jl c.name && yk c.act
noncomputable def zI:Option GCall → List GCall → Bool
 | _,[]=>true
 | o,c :: l=>okC c && (o.elim true fun b=>ltS b.name c.name) && zI (some c) l
noncomputable def xK (l:GList):Bool:=decide (l.mode ≤ 2) && (decide (l.mode ≠ 0) || decide (l.calls = [])) && zI none l.calls
def vg (f_calls_Known f_fold_action:Nat):ICode:=.seq (.seq (.r [.q 19 (.fAddr 1 (.t 1)),.q 20 (.load1 (.t 19)),.q 21 (.len false (.t 20)),.m 22 (.k 0)]) (.blk 0 (.loop (.seq (.r [.q 23 (.bin .lss (.t 22) (.t 21))]) (.seq (.cond (.t 23) (.skip) (.exit 0)) (.seq (.blk 1 (.seq (.r [.m 24 (.t 22),.q 25 (.iAddrS 2 (.t 20) (.t 22)),.q 26 (.loadN 2 (.t 25)),.q 4 (.alloc [.s [],.i .u32 0]),.m 3 (.t 24),.u (.store 2 (.t 4) (.t 26))]) (.seq (.reg true [.q 27 (.fAddr 0 (.t 4)),.q 28 (.load1 (.t 27)),.l 29 f_calls_Known [.t 28],.q 30 (.un .not (.t 29)),.m 31 (.t 30),.g 32 (.fAddr 1 (.t 4)) 31 false,.g 33 (.load1 (.t 32)) 31 false,⟨(some 34),.callF f_fold_action [.t 33],(some (31,false))⟩,.g 35 (.un .not (.t 34)) 31 false,.q 36 (.pick (.t 31) (.c (.b true)) (.t 35)),.m 37 (.t 36),.g 38 (.mov (.t 3)) 37 false,.g 39 (.bin .gtr (.t 38) (.k 0)) 37 false,.g 40 (.mov (.t 39)) 37 false,.g 41 (.fAddr 1 (.t 1)) 40 true,.g 42 (.load1 (.t 41)) 40 true,.g 43 (.mov (.t 3)) 40 true,.g 44 (.bin .sub (.t 43) (.k 1)) 40 true,.g 45 (.iAddrS 2 (.t 42) (.t 44)) 40 true,.g 46 (.fAddr 0 (.t 45)) 40 true,.g 47 (.load1 (.t 46)) 40 true,.g 48 (.fAddr 0 (.t 4)) 40 true,.g 49 (.load1 (.t 48)) 40 true,.g 50 (.bin .geq (.t 47) (.t 49)) 40 true,.g 51 (.pick (.t 40) (.t 50) (.c (.b false))) 37 false,.q 52 (.pick (.t 37) (.c (.b true)) (.t 51))]) (.cond (.t 52) (.seq (.r [.m 2 (.c (.b false))]) (.ret)) (.skip))))) (.r [.q 53 (.bin .add (.t 22) (.k 1)),.m 22 (.t 53)]))))))) (.seq (.r [.m 2 (.c (.b true))]) (.ret))
def Zu (f_calls_Known f_fold_action:Nat):IFn:=⟨[.tmp 2],.seq (.r [.q 1 (.box (.t 0)),.m 2 (.c (.b false))]) (.seq (.seq (.r [.q 5 (.fAddr 0 (.t 1)),.q 6 (.load1 (.t 5)),.q 7 (.bin .gtr (.t 6) (.c (.i .u8 2))),.m 8 (.t 7),.g 9 (.fAddr 0 (.t 1)) 8 false,.g 10 (.load1 (.t 9)) 8 false,.g 11 (.bin .eql (.t 10) (.c (.i .u8 0))) 8 false,.g 12 (.mov (.t 11)) 8 false,.g 13 (.fAddr 1 (.t 1)) 12 true,.g 14 (.load1 (.t 13)) 12 true,.g 15 (.len false (.t 14)) 12 true,.g 16 (.bin .gtr (.t 15) (.k 0)) 12 true,.g 17 (.pick (.t 12) (.t 16) (.c (.b false))) 8 false,.q 18 (.pick (.t 8) (.c (.b true)) (.t 17))]) (.cond (.t 18) (.seq (.r [.m 2 (.c (.b false))]) (.ret)) (.skip))) (.cut (vg f_calls_Known f_fold_action)))⟩
theorem qg5 {g1 g2:Nat} (h1:∀ s,qg P g1 [.s s] (.b (jl s))) (h2:∀ n,qg P g2 [.i .u32 n] (.b (yk n))) (l:GList) (hl:l.calls.length ≤ 100000) {t':Tr AV} {h':Hp} (hw:Wk 0 t' h' (mkT [(1,.ptr 0 0),(2,.b false)]) (mkH 0 [.cells 0 true false (zj l)])) :
  S P 0 (vg g1 g2) (je [.tmp 2] fun v' h'=>Frz h' v' (.b (zI none l.calls))) t' h':=by
 refine S.weak hw (qL ?_)
 simp only [vg,zj,qi,H0,mkT,mkH,trL,vI,simprocAttr]
 simp only [↓vS,vT,shb,shv,qb,qc,cellsOf,wr,qa,simprocAttr]
 refine SL.loop (α:=Nat) (fun j=>[(1,.ptr 0 0),(2,.b false),(20,.fz l.calls.length (rC l.calls)),(21,.i .i64 l.calls.length),(22,.i .i64 j)]) (fun _=>[.cells 0 true false (zj l)])
  (fun j=>j ≤ l.calls.length ∧ zI none l.calls = zI (if j = 0 then none else l.calls[j - 1]?) (l.calls.drop j)) (fun j=>l.calls.length - j) 0 [0] ?_ ?_ ?_ rfl ?_ ?_
 ·simp [vw,qf]
 ·simp [vw,zj]
 ·simp
 ·exact ⟨Nat.zero_le _,rfl⟩
 rintro j ⟨hj,hI⟩ G ih
 simp only [qi,H0,mkT,mkH,trL,vI,simprocAttr,zj]
 by_cases hlt:j < l.calls.length
 ·have hx : l.calls[j]? = some l.calls[j]:=List.getElem?_eq_getElem hlt
  have he:=qbV hx
  have hb:=qaV hlt
  have hw:IntKind.wrap .i64 ((j:Int) + 1) = ((j + 1:Nat):Int):=by rw [qz (by omega) (by omega)]; omega
  rw [List.drop_eq_getElem_cons hlt,zI] at hI
  have hnx:l.calls[j]? = some l.calls[j]:=hx
  generalize hc0:l.calls[j] = c at hI he hx
  simp only [↓vS,vT,shb,shv,qb,qc,cellsOf,wr,qa,simprocAttr,hlt,hb,he,kj]
  refine xt ?_
  simp only [↓vS,vT,shb,shv,qb,qc,cellsOf,wr,qa,simprocAttr]
  refine (h1 c.name).pc ?_
  cases hk:jl c.name with
  | false =>
   have hw:zI none l.calls = false:=by rw [hI]; simp [okC,hk]
   simp only [↓vS,vT,shb,shv,qb,qc,cellsOf,wr,qa,simprocAttr]
   simp [vZ,hw]
  | true =>
   simp only [↓vS,vT,shb,shv,qb,qc,cellsOf,wr,qa,simprocAttr]
   refine (h2 c.act).pc ?_
   cases hac:yk c.act with
   | false =>
    have hw:zI none l.calls = false:=by rw [hI]; simp [okC,hac]
    simp only [↓vS,vT,shb,shv,qb,qc,cellsOf,wr,qa,simprocAttr]
    simp [vZ,hw]
   | true =>
    have hok:okC c = true:=by simp [okC,hk,hac]
    by_cases h0:j = 0
    ·subst h0
     have hn:¬ (0:Int) < ((0:Nat):Int):=by decide
     simp only [↓vS,vT,shb,shv,qb,qc,cellsOf,wr,qa,simprocAttr,hn,hw]
     refine ih 1 ⟨by omega,?_⟩ (by omega) _ _ (Wk.mk _ _ [0] ?_ ?_ ?_ rfl)
     ·rw [hI,hok]; simp [hx]
     ·simp [vw,qf]
      exact qz (by decide) (by decide)
     ·simp [vw,zj]
     ·simp
    ·have hp:(0:Int) < (j:Int):=by omega
     have hpl:j - 1 < l.calls.length:=by omega
     have hy:l.calls[j - 1]? = some l.calls[j - 1]:=List.getElem?_eq_getElem hpl
     have hw2:IntKind.wrap .i64 ((j:Int) - 1) = ((j - 1:Nat):Int):=by rw [qz (by omega) (by omega)]; omega
     have g0:(rC l.calls)[(j - 1) * 2]? = some (.s l.calls[j - 1].name):=kT hy (i:=0) (by decide)
     rw [if_neg h0,hy] at hI
     cases hlt2:ltS l.calls[j - 1].name c.name with
     | false =>
      have hwf:zI none l.calls = false:=by rw [hI]; simp [hlt2]
      simp only [↓vS,vT,shb,shv,qb,qc,cellsOf,wr,qa,simprocAttr,hp,hw2,hpl,g0,hlt2]
      simp [vZ,hwf]
     | true =>
      simp only [↓vS,vT,shb,shv,qb,qc,cellsOf,wr,qa,simprocAttr,hp,hw2,hpl,g0,hlt2,hw]
      refine ih (j + 1) ⟨by omega,?_⟩ (by omega) _ _ (Wk.mk _ _ [0] ?_ ?_ ?_ rfl)
      ·rw [hI,hok]; simp [hlt2,hx]
      ·simp [vw,qf]
      ·simp [vw,zj]
      ·simp
 ·rw [List.drop_of_length_le (by omega),zI] at hI
  simp only [↓vS,vT,shb,shv,qb,qc,cellsOf,wr,qa,simprocAttr,hlt]
  simp [vZ,hI]
theorem qoR {g1 g2:Nat} (hc:qw P f (Zu g1 g2) = true) (h1:∀ s,qg P g1 [.s s] (.b (jl s))) (h2:∀ n,qg P g2 [.i .u32 n] (.b (yk n))) (l:GList) (hl:l.calls.length ≤ 100000):qg P f [.agg (zj l)] (.b (xK l)):=by
 refine qg.mk hc rfl ?_
 simp only [Zu,zj,qi,H0,mkT,mkH,trL,vI,simprocAttr]
 by_cases m1:2 < l.mode
 ·have hw:xK l = false:=by simp [xK]; omega
  simp only [↓vS,vT,shb,shv,qb,qc,cellsOf,wr,qa,simprocAttr,m1]
  simp [vZ,hw]
 have tail:(l.mode ≠ 0 ∨ l.calls = []) → xK l = zI none l.calls:=fun h=>by
  have:(decide (l.mode ≤ 2) && (decide (l.mode ≠ 0) || decide (l.calls = []))) = true:=by
   simp only [Bool.and_eq_true,Bool.or_eq_true,decide_eq_true_eq]; exact ⟨by omega,h⟩
  unfold xK; rw [this]; rfl
 by_cases m2:l.mode = 0
 ·by_cases m3:(0:Int) < l.calls.length
  ·have hne:l.calls ≠ []:=by intro h; rw [h] at m3; simp at m3
   have hw:xK l = false:=by simp [xK,m2,hne]
   simp only [↓vS,vT,shb,shv,qb,qc,cellsOf,wr,qa,simprocAttr,m1,m2,m3]
   simp [vZ,hw]
  ·have hz:l.calls = []:=List.eq_nil_of_length_eq_zero (by omega)
   rw [tail (.inr hz)]
   simp only [↓vS,vT,shb,shv,qb,qc,cellsOf,wr,qa,simprocAttr,m1,m2,m3]
   refine qg5 h1 h2 l hl (Wk.mk _ _ [0] ?_ ?_ ?_ rfl)
   ·simp [vw]
   ·simp [vw,zj,m2]
   ·simp
 ·rw [tail (.inl m2)]
  simp only [↓vS,vT,shb,shv,qb,qc,cellsOf,wr,qa,simprocAttr,m1,m2]
  refine qg5 h1 h2 l hl (Wk.mk _ _ [0] ?_ ?_ ?_ rfl)
  ·simp [vw]
  ·simp [vw,zj]
  ·simp
end Go.Kc
end
section
/- What fold.Put and fold.Take answer. Condition: the functions' texts are these. -/
namespace Go.Kc
variable {P:Program} {f:Nat}
def qqd (P:Program) (f:Nat):Prop:=∀ l:GList,l.calls.length ≤ 100000 → qg P f [.agg (zj l)] (.b (xK l))
end Go.Kc
end
section
/- What a list's lines are read by: fold.ins, values.Read. Condition: the functions' texts are these. -/
namespace Go.Kc
variable {P:Program} {f:Nat}
structure Word where
 name:List UInt8
 act:Int
 has:Bool
end Go.Kc
end
section
/- Lists and notes are the same as themselves. Condition: the functions' texts are these. -/
namespace Go.Kc
variable {P:Program} {f:Nat}
end Go.Kc
end
section
/- What a word of a list stands for: fold.members, of what groups.Expand answers. Condition: the functions' texts are these. -/
namespace Go.Kc
variable {P:Program} {f:Nat}
end Go.Kc
end
section
/- A note of a word: what fold.Step's closure does. Condition: the function's text is this. -/
namespace Go.Kc
variable {P:Program} {f:Nat}
end Go.Kc
end
section
/- What fold.Step makes of a list, in plain words. No condition. -/
namespace Go.Kc
variable (E:List UInt8 → List (List UInt8) × Int)
end Go.Kc
end
section
/- The order of names; lists that rise; what Put and Take make of these. No condition. -/
namespace Go.Kc
theorem qd8:∀ a:List UInt8,ltS a a = false
 | []=>rfl
 | c :: x=>by rw [qcT,if_neg (UInt8.lt_irrefl c),if_pos rfl]; exact qd8 x
theorem qbp:∀ {a b c:List UInt8},ltS a b = true → ltS b c = true → ltS a c = true
 | _,[],[],_,h2=>by simp [qjs] at h2
 | _,_ :: _,[],_,h2=>by simp [qcU] at h2
 | [],_,_ :: _,_,_=>rfl
 | _ :: _,[],_ :: _,h1,_=>by simp [qcU] at h1
 | a :: x,b :: y,c :: z,h1,h2=>by
  rw [qcT] at h1 h2 ⊢
  simp only [UInt8.lt_iff_toNat_lt,← UInt8.toNat_inj] at h1 h2 ⊢
  by_cases e1:a.toNat < b.toNat
  ·by_cases e2:b.toNat < c.toNat
   ·rw [if_pos (by omega)]
   ·rw [if_neg e2] at h2
    split at h2
    ·rw [if_pos (by omega)]
    ·cases h2
  ·rw [if_neg e1] at h1
   split at h1
   ·rename_i e3
    by_cases e2:b.toNat < c.toNat
    ·rw [if_pos (by omega)]
    ·rw [if_neg e2] at h2
     split at h2
     ·rw [if_neg (by omega),if_pos (by omega)]; exact qbp h1 h2
     ·cases h2
   ·cases h1
theorem ql9 {a b:List UInt8} (h:ltS a b = true):a ≠ b:=by
 intro e; rw [e,qd8] at h; cases h
def Up (l:List GCall):Prop:=l.Pairwise fun a b=>ltS a.name b.name = true
theorem qa4:∀ (o:Option GCall) (l:List GCall),zI o l = true ↔ ((∀ c ∈ l,okC c = true) ∧ Up l ∧ ∀ b,o = some b → ∀ c ∈ l,ltS b.name c.name = true)
 | o,[]=>by simp [zI,Up]
 | o,c :: l=>by
  have ih:=qa4 (some c) l
  simp only [zI,Bool.and_eq_true,ih,Up,List.pairwise_cons,List.mem_cons,forall_eq_or_imp]
  constructor
  ·rintro ⟨⟨h1,h2⟩,h3,h4,h5⟩
   refine ⟨⟨h1,h3⟩,⟨h5 c rfl,h4⟩,?_⟩
   rintro b rfl
   exact ⟨h2,fun d hd=>qbp h2 (h5 c rfl d hd)⟩
  ·rintro ⟨⟨h1,h3⟩,⟨h5,h4⟩,h6⟩
   refine ⟨⟨h1,?_⟩,h3,h4,?_⟩
   ·cases o with
    | none=>rfl
    | some b=>exact (h6 b rfl).1
   ·rintro b hb; cases hb; exact h5
theorem qcZ (l:GList):xK l = true ↔ (l.mode ≤ 2 ∧ (l.mode ≠ 0 ∨ l.calls = [])) ∧ (∀ c ∈ l.calls,okC c = true) ∧ Up l.calls:=by
 unfold xK
 rw [Bool.and_eq_true,Bool.and_eq_true,Bool.or_eq_true,decide_eq_true_eq,decide_eq_true_eq,decide_eq_true_eq,qa4]
 simp
theorem qds {c:GCall} {l:List GCall}:xy (c :: l) c.name = some c:=by unfold xy; rw [List.find?_cons]; simp
theorem qdt {c:GCall} {l:List GCall} {t:List UInt8} (h:t ≠ c.name):xy (c :: l) t = xy l t:=by unfold xy; rw [List.find?_cons]; simp [Ne.symm h]
end Go.Kc
end
section
/- What fold.Step makes of a list that may be: it may be again. No condition. -/
namespace Go.Kc
theorem qdv {s:List UInt8} (h:jl s = true):s ∈ qH.map (·.1):=by
 unfold jl at h
 obtain ⟨x,hx⟩:=Option.isSome_iff_exists.1 h
 have h1:=List.mem_of_find?_eq_some hx
 have h2:=List.find?_some hx
 exact List.mem_map.2 ⟨x,h1,of_decide_eq_true h2⟩
end Go.Kc
end
section
/- A list's value as a row of puts and takes; twice is as once. No condition. -/
namespace Go.Kc
variable (E:List UInt8 → List (List UInt8) × Int)
variable {E}
end Go.Kc
end
section
/- What fold.Step answers. Condition: the functions' texts are these. -/
namespace Go.Kc
variable {P:Program} {f:Nat}
end Go.Kc
end
section
/- What fold.Step answers, whole. Condition: the functions' texts are these. -/
namespace Go.Kc
variable {P:Program} {f:Nat}
end Go.Kc
end
section
/- FoldKeeps, FoldTwice: what the laws answer. Condition: the functions' texts are these. -/
namespace Go.Kc
variable {P:Program} {f:Nat}
end Go.Kc
end
section
/- FoldOne: what the law answers. Condition: the functions' texts are these. -/
namespace Go.Kc
variable {P:Program} {f:Nat}
def Q4 (P:Program) (f:Nat):Prop:=∀ (l:GList) (s:List UInt8),l.calls.length ≤ 100000 → qg P f [.agg (zj l),.s s] (.tup [.i .u32 (match xy l.calls s with | some c=>c.act | none=>0),.b (xy l.calls s).isSome])
end Go.Kc
end
section
/- What the document's reading of values answers. Condition: the functions' texts are these. -/
namespace Go.Kc
variable {P:Program} {f:Nat}
end Go.Kc
end
section
/- What the document says of lists. Condition: the functions' texts are these. -/
namespace Go.Kc
variable {P:Program} {f:Nat}
def yj:List (List UInt8 × List Int):=[([98,105,110,100],[49,361,1073741873,282,200,200]),([98,112,102],[321,357,1073742145,386,280,280]),([98,114,107],[12,45,1073741836,45,214,214]),([99,108,111,99,107,95,115,101,116,116,105,109,101],[227,264,1073742051,262,112,112]),([99,108,111,110,101],[56,120,1073741880,120,220,220]),([99,108,111,110,101,51],[435,435,-1,435,435,435]),([99,108,111,115,101],[3,6,1073741827,6,57,57]),([99,111,110,110,101,99,116],[42,362,1073741866,283,203,203]),([100,101,108,101,116,101,95,109,111,100,117,108,101],[176,129,1073742000,129,106,106]),([101,120,101,99,118,101],[59,11,1073742344,11,221,221]),([101,120,105,116],[60,1,1073741884,1,93,93]),([102,105,110,105,116,95,109,111,100,117,108,101],[313,350,1073742137,379,273,273]),([102,111,114,107],[57,2,1073741881,2,-1,-1]),([103,101,116,117,105,100],[102,24,1073741926,24,174,174]),([105,110,105,116,95,109,111,100,117,108,101],[175,128,-1,128,105,105]),([105,111,99,116,108],[16,54,1073742338,54,29,29]),([107,105,108,108],[62,37,1073741886,37,129,129]),([108,105,115,116,101,110],[50,363,1073741874,284,201,201]),([109,109,97,112],[9,90,1073741833,-1,222,222]),([109,111,117,110,116],[165,21,1073741989,21,40,40]),([109,112,114,111,116,101,99,116],[10,125,1073741834,125,226,226]),([109,117,110,109,97,112],[11,91,1073741835,91,215,215]),([111,112,101,110],[2,5,1073741826,5,-1,-1]),([111,112,101,110,97,116],[257,295,1073742081,322,56,56]),([112,101,114,115,111,110,97,108,105,116,121],[135,136,1073741959,136,92,92]),([112,107,101,121,95,109,112,114,111,116,101,99,116],[329,380,1073742153,394,288,-1]),([112,116,114,97,99,101],[101,26,1073742345,26,117,117]),([114,101,97,100],[0,3,1073741824,3,63,63]),([114,101,98,111,111,116],[169,88,1073741993,88,142,142]),([115,99,104,101,100,95,115,101,116,97,116,116,114],[314,351,1073742138,380,274,274]),([115,99,104,101,100,95,115,101,116,115,99,104,101,100,117,108,101,114],[144,156,1073741968,156,119,119]),([115,101,99,99,111,109,112],[317,354,1073742141,383,277,277]),([115,101,116,110,115],[308,346,1073742132,375,268,268]),([115,101,116,116,105,109,101,111,102,100,97,121],[164,79,1073741988,79,170,170]),([115,101,116,117,105,100],[105,23,1073741929,23,146,146]),([115,104,109,97,116],[30,397,-1,305,196,196]),([115,111,99,107,101,116],[41,359,1073741865,281,198,198]),([117,109,111,117,110,116,50],[166,52,1073741990,52,39,39]),([117,110,115,104,97,114,101],[272,310,1073742096,337,97,97]),([119,114,105,116,101],[1,4,1073741825,4,64,64])]
def qfr (x:List UInt8 × List Int):List AV:=[.s x.1,.fz 6 (rI .i64 x.2)]
theorem qc2 (x:List UInt8 × List Int):(qfr x).length = 2:=rfl
theorem qdN:yj.map (·.1) = qH.map (·.1):=rfl
def qop (P:Program) (f:Nat):Prop:=qg P f [] (.fz 40 (yj.flatMap qfr))
theorem qaM (s:List UInt8):jl s = true ↔ s ∈ yj.map (·.1):=by
 rw [qdN]
 constructor
 ·exact qdv
 ·intro h
  obtain ⟨x,hx,rfl⟩:=List.mem_map.1 h
  unfold jl
  rw [List.find?_isSome]
  exact ⟨x,hx,by simp⟩
def jF (f_vestibuleref09_Table:Nat):IFn:=⟨[.tmp 2],.seq (.r [.m 2 (.c (.b false))]) (.seq (.r [.l 5 f_vestibuleref09_Table [],.m 3 (.t 5)]) (.seq (.seq (.r [.m 4 (.k 0)]) (.blk 0 (.loop (.seq (.seq (.r [.m 6 (.t 4),.m 7 (.t 3),.q 8 (.len false (.t 7)),.q 9 (.bin .lss (.t 6) (.t 8))]) (.cond (.t 9) (.skip) (.exit 0))) (.seq (.blk 1 (.seq (.r [.m 12 (.t 3),.m 13 (.t 4),.q 14 (.iAddrS 2 (.t 12) (.t 13)),.q 15 (.fAddr 0 (.t 14)),.q 16 (.load1 (.t 15)),.m 17 (.t 0),.q 18 (.bin .eql (.t 16) (.t 17))]) (.cond (.t 18) (.seq (.r [.m 2 (.c (.b true))]) (.ret)) (.skip)))) (.r [.m 10 (.t 4),.q 11 (.bin .add (.t 10) (.k 1)),.m 4 (.t 11)])))))) (.seq (.r [.m 2 (.c (.b false))]) (.ret))))⟩
theorem qpP {g1:Nat} (hc:qw P f (jF g1) = true) (h1:qop P g1) (s:List UInt8):qg P f [.s s] (.b (jl s)):=by
 refine qg.mk hc rfl ?_
 simp only [jF,qi,H0,mkT,mkH,trL,vI,simprocAttr]
 simp only [↓vS,vT,shb,shv,qb,qc,cellsOf,wr,qa,simprocAttr]
 refine h1.sc ?_
 have h40:yj.length = 40:=by decide
 have hlen:(yj.flatMap qfr).length = 80:=by rw [xc qc2,h40]
 have hcl:qK (yj.flatMap qfr) = true:=ko fun _=>rfl
 have hget:∀ j r,yj[j]? = some r → (yj.flatMap qfr)[j * 2]? = some (.s r.1):=fun j r h=>ve (m:=2) qc2 h (i:=0) (by decide)
 generalize hT:yj.flatMap qfr = T at hlen hcl hget
 simp only [↓vS,vT,shb,shv,qb,qc,cellsOf,wr,qa,simprocAttr]
 refine SL.loop (α:=Nat) (fun j=>[(0,.s s),(3,.fz 40 T),(4,.i .i64 j)]) (fun _=>[]) (fun j=>j ≤ 40 ∧ ∀ r ∈ yj.take j,r.1 ≠ s) (fun j=>40 - j) 0 [] ?_ ?_ ?_ rfl ?_ ?_
 ·simp [vw,hcl]
 ·trivial
 ·simp
 ·exact ⟨Nat.zero_le _,fun r hr=>by cases hr⟩
 rintro j ⟨hj,hI⟩ G ih
 simp only [qi,H0,mkT,mkH,trL,vI,simprocAttr]
 by_cases hlt:j < 40
 ·have hx:yj[j]? = some (yj[j]'(by omega)):=List.getElem?_eq_getElem (by omega)
  have hw:IntKind.wrap .i64 ((j:Int) + 1) = ((j + 1:Nat):Int):=by rw [qz (by omega) (by omega)]; omega
  have hlt':(j:Int) < 40:=by omega
  have ht:yj.take (j + 1) = yj.take j ++ [yj[j]'(by omega)]:=by rw [List.take_add_one,hx]; rfl
  have hmem:(yj[j]'(by omega)) ∈ yj:=List.getElem_mem _
  have g0:=hget j _ hx
  generalize (yj[j]'(by omega)) = r at hx ht hmem g0
  by_cases he:r.1 = s
  ·have hk:jl s = true:=(qaM s).2 (List.mem_map.2 ⟨r,hmem,he⟩)
   simp only [↓vS,vT,shb,shv,qb,qc,cellsOf,wr,qa,simprocAttr,hlt,hlt',g0,he]
   simp [vZ,hk]
  ·simp only [↓vS,vT,shb,shv,qb,qc,cellsOf,wr,qa,simprocAttr,hlt,hlt',g0,he,hw]
   refine ih (j + 1) ⟨by omega,?_⟩ (by omega) _ _ (Wk.mk _ _ [] ?_ ?_ ?_ rfl)
   ·intro q hq
    rw [ht] at hq
    rcases List.mem_append.1 hq with h | h
    ·exact hI q h
    ·rw [List.mem_singleton.1 h]; exact he
   ·simp [vw,hcl]
   ·trivial
   ·simp
 ·have hlt':¬ (j:Int) < 40:=by omega
  have hk:jl s = false:=by
   rw [Bool.eq_false_iff]
   intro h
   obtain ⟨r,hr,he⟩:=List.mem_map.1 ((qaM s).1 h)
   exact hI r (by rw [List.take_of_length_le (by omega)]; exact hr) he
  simp only [↓vS,vT,shb,shv,qb,qc,cellsOf,wr,qa,simprocAttr,hlt']
  simp [vZ,hk]
def Rng (l:List GCall):Prop:=∀ c ∈ l,0 ≤ c.act ∧ c.act ≤ 4294967295
def qcl (P:Program) (f:Nat):Prop:=∀ l:GList,l.calls.length ≤ 100000 → Rng l.calls → qg P f [.agg (zj l)] (.b (xK l))
theorem QB {a:Int} (h:0 ≤ a):a = 65536 * a.tdiv 65536 + a.tmod 65536 ∧ 0 ≤ a.tmod 65536 ∧ a.tmod 65536 < 65536:=by
 rw [Int.tdiv_eq_ediv_of_nonneg h,Int.tmod_eq_emod_of_nonneg h]; omega
theorem kB {a:Int} (h0:0 ≤ a) (h1:a ≤ 4294967295):0 ≤ a.tdiv 65536 ∧ a.tdiv 65536 < 4294967296:=by
 have:=QB h0; omega
theorem wZ {a:Int} (h0:0 ≤ a) (h1:a ≤ 4294967295):yk a = (decide (a = 0) || decide (a = 2147483648) || (decide (a.tdiv 65536 = 5) && decide (a.tmod 65536 ≤ 4095))):=by
 have:=QB h0
 unfold yk
 rw [Bool.eq_iff_iff]
 simp only [Bool.or_eq_true,Bool.and_eq_true,decide_eq_true_eq]
 omega
def xe (f_vestibuleref09_Known:Nat):ICode:=.seq (.seq (.r [.m 3 (.k 0)]) (.blk 0 (.loop (.seq (.seq (.r [.m 19 (.t 3),.q 20 (.fAddr 1 (.t 1)),.q 21 (.load1 (.t 20)),.q 22 (.len false (.t 21)),.q 23 (.bin .lss (.t 19) (.t 22))]) (.cond (.t 23) (.skip) (.exit 0))) (.seq (.blk 1 (.seq (.r [.q 26 (.fAddr 1 (.t 1)),.q 27 (.load1 (.t 26)),.m 28 (.t 3),.q 29 (.iAddrS 2 (.t 27) (.t 28)),.q 30 (.fAddr 1 (.t 29)),.q 31 (.load1 (.t 30)),.m 4 (.t 31)]) (.seq (.seq (.reg true [.q 32 (.fAddr 1 (.t 1)),.q 33 (.load1 (.t 32)),.m 34 (.t 3),.q 35 (.iAddrS 2 (.t 33) (.t 34)),.q 36 (.fAddr 0 (.t 35)),.q 37 (.load1 (.t 36)),.l 38 f_vestibuleref09_Known [.t 37],.q 39 (.un .not (.t 38)),.m 40 (.t 39),.g 41 (.mov (.t 3)) 40 false,.g 42 (.bin .gtr (.t 41) (.k 0)) 40 false,.g 43 (.mov (.t 42)) 40 false,.g 44 (.fAddr 1 (.t 1)) 43 true,.g 45 (.load1 (.t 44)) 43 true,.g 46 (.mov (.t 3)) 43 true,.g 47 (.bin .sub (.t 46) (.k 1)) 43 true,.g 48 (.iAddrS 2 (.t 45) (.t 47)) 43 true,.g 49 (.fAddr 0 (.t 48)) 43 true,.g 50 (.load1 (.t 49)) 43 true,.g 51 (.fAddr 1 (.t 1)) 43 true,.g 52 (.load1 (.t 51)) 43 true,.g 53 (.mov (.t 3)) 43 true,.g 54 (.iAddrS 2 (.t 52) (.t 53)) 43 true,.g 55 (.fAddr 0 (.t 54)) 43 true,.g 56 (.load1 (.t 55)) 43 true,.g 57 (.bin .geq (.t 50) (.t 56)) 43 true,.g 58 (.pick (.t 43) (.t 57) (.c (.b false))) 40 false,.q 59 (.pick (.t 40) (.c (.b true)) (.t 58))]) (.cond (.t 59) (.seq (.r [.m 2 (.c (.b false))]) (.ret)) (.skip))) (.seq (.r [.m 60 (.t 4),.q 61 (.bin .neq (.t 60) (.c (.i .u32 0))),.m 62 (.t 61),.g 63 (.mov (.t 4)) 62 true,.g 64 (.bin .neq (.t 63) (.c (.i .u32 2147483648))) 62 true,.q 65 (.pick (.t 62) (.t 64) (.c (.b false))),.m 66 (.t 65),.g 67 (.mov (.t 4)) 66 true,.g 68 (.bin .quo (.t 67) (.c (.i .u32 65536))) 66 true,.g 69 (.bin .neq (.t 68) (.c (.i .u32 5))) 66 true,.g 70 (.mov (.t 69)) 66 true,.g 71 (.mov (.t 4)) 70 false,.g 72 (.bin .rem (.t 71) (.c (.i .u32 65536))) 70 false,.g 73 (.bin .gtr (.t 72) (.c (.i .u32 4095))) 70 false,.g 74 (.pick (.t 70) (.c (.b true)) (.t 73)) 66 true,.q 75 (.pick (.t 66) (.t 74) (.c (.b false)))]) (.cond (.t 75) (.seq (.r [.m 2 (.c (.b false))]) (.ret)) (.skip)))))) (.r [.m 24 (.t 3),.q 25 (.bin .add (.t 24) (.k 1)),.m 3 (.t 25)])))))) (.seq (.r [.m 2 (.c (.b true))]) (.ret))
def wj (f_vestibuleref09_Known:Nat):IFn:=⟨[.tmp 2],.seq (.r [.q 1 (.box (.t 0)),.m 2 (.c (.b false))]) (.seq (.seq (.r [.q 5 (.fAddr 0 (.t 1)),.q 6 (.load1 (.t 5)),.q 7 (.bin .gtr (.t 6) (.c (.i .u8 2))),.m 8 (.t 7),.g 9 (.fAddr 0 (.t 1)) 8 false,.g 10 (.load1 (.t 9)) 8 false,.g 11 (.bin .eql (.t 10) (.c (.i .u8 0))) 8 false,.g 12 (.mov (.t 11)) 8 false,.g 13 (.fAddr 1 (.t 1)) 12 true,.g 14 (.load1 (.t 13)) 12 true,.g 15 (.len false (.t 14)) 12 true,.g 16 (.bin .gtr (.t 15) (.k 0)) 12 true,.g 17 (.pick (.t 12) (.t 16) (.c (.b false))) 8 false,.q 18 (.pick (.t 8) (.c (.b true)) (.t 17))]) (.cond (.t 18) (.seq (.r [.m 2 (.c (.b false))]) (.ret)) (.skip))) (.cut (xe f_vestibuleref09_Known)))⟩
set_option maxRecDepth 8000 in
theorem qcX {g1:Nat} (h1:∀ s,qg P g1 [.s s] (.b (jl s))) (l:GList) (hl:l.calls.length ≤ 100000) (hR:Rng l.calls) {t':Tr AV} {h':Hp} (hw:Wk 0 t' h' (mkT [(1,.ptr 0 0),(2,.b false)]) (mkH 0 [.cells 0 true false (zj l)])) :
  S P 0 (xe g1) (je [.tmp 2] fun v' h'=>Frz h' v' (.b (zI none l.calls))) t' h':=by
 refine S.weak hw (qL ?_)
 simp only [xe,zj,qi,H0,mkT,mkH,trL,vI,simprocAttr]
 simp only [↓vS,vT,shb,shv,qb,qc,cellsOf,wr,qa,simprocAttr]
 refine SL.loop (α:=Nat) (fun j=>[(1,.ptr 0 0),(2,.b false),(3,.i .i64 j)]) (fun _=>[.cells 0 true false (zj l)])
  (fun j=>j ≤ l.calls.length ∧ zI none l.calls = zI (if j = 0 then none else l.calls[j - 1]?) (l.calls.drop j)) (fun j=>l.calls.length - j) 0 [0] ?_ ?_ ?_ rfl ?_ ?_
 ·simp [vw,qf]
 ·simp [vw,zj]
 ·simp
 ·exact ⟨Nat.zero_le _,rfl⟩
 rintro j ⟨hj,hI⟩ G ih
 simp only [qi,H0,mkT,mkH,trL,vI,simprocAttr,zj]
 by_cases hlt:j < l.calls.length
 ·have hx : l.calls[j]? = some l.calls[j]:=List.getElem?_eq_getElem hlt
  have g0:(rC l.calls)[j * 2]? = some (.s l.calls[j].name):=kT hx (i:=0) (by decide)
  have g1:(rC l.calls)[j * 2 + 1]? = some (.i .u32 l.calls[j].act):=kT hx (i:=1) (by decide)
  have hw:IntKind.wrap .i64 ((j:Int) + 1) = ((j + 1:Nat):Int):=by rw [qz (by omega) (by omega)]; omega
  rw [List.drop_eq_getElem_cons hlt,zI] at hI
  obtain ⟨r0,r1⟩:=hR l.calls[j] (List.getElem_mem hlt)
  generalize hc0:l.calls[j] = c at hI hx g0 g1 r0 r1
  simp only [↓vS,vT,shb,shv,qb,qc,cellsOf,wr,qa,simprocAttr,hlt,g1]
  refine xt ?_
  simp only [↓vS,vT,shb,shv,qb,qc,cellsOf,wr,qa,simprocAttr,hlt,g0]
  refine (h1 c.name).pc ?_
  cases hk:jl c.name with
  | false =>
   have hw:zI none l.calls = false:=by rw [hI]; simp [okC,hk]
   simp only [↓vS,vT,shb,shv,qb,qc,cellsOf,wr,qa,simprocAttr]
   simp [vZ,hw]
  | true =>
   by_cases h0:j = 0
   ·subst h0
    have hn:¬ (0:Int) < ((0:Nat):Int):=by decide
    have hw:IntKind.wrap .i64 (((0:Nat):Int) + 1) = ((1:Nat):Int):=by decide
    have hw':IntKind.wrap .i64 (0 + 1) = ((1:Nat):Int):=by decide
    have h65:(65536:Int) ≠ 0:=by decide
    by_cases e0:c.act = 0
    ·have hok:okC c = true:=by simp [okC,hk,yk,e0]
     simp only [↓vS,vT,shb,shv,qb,qc,cellsOf,wr,qa,simprocAttr,hn,e0,hw]
     refine ih 1 ⟨by omega,?_⟩ (by omega) _ _ (Wk.mk _ _ [0] ?_ ?_ ?_ rfl)
     ·rw [hI,hok]; simp [hx]
     ·simp [vw,qf]
      exact qz (by decide) (by decide)
     ·simp [vw,zj]
     ·simp
    by_cases e1:c.act = 2147483648
    ·have hok:okC c = true:=by simp [okC,hk,yk,e1]
     simp only [↓vS,vT,shb,shv,qb,qc,cellsOf,wr,qa,simprocAttr,hn,e0,e1,hw]
     refine ih 1 ⟨by omega,?_⟩ (by omega) _ _ (Wk.mk _ _ [0] ?_ ?_ ?_ rfl)
     ·rw [hI,hok]; simp [hx]
     ·simp [vw,qf]
      exact qz (by decide) (by decide)
     ·simp [vw,zj]
     ·simp
    by_cases e2:c.act.tdiv 65536 = 5
    ·have hwq:IntKind.wrap .u32 (c.act.tdiv 65536) = 5:=by rw [e2]; decide
     by_cases e3:4095 < c.act.tmod 65536
     ·have e3':¬ c.act.tmod 65536 ≤ 4095:=by omega
      have hwf:zI none l.calls = false:=by rw [hI]; simp [okC,wZ r0 r1,e0,e1,e2,e3']
      simp only [↓vS,vT,shb,shv,qb,qc,cellsOf,wr,qa,simprocAttr,hn,e0,e1,↓jL h65,↓wT h65,hwq,e3]
      simp [vZ,hwf]
     ·have hok:okC c = true:=by simp [okC,hk,wZ r0 r1,e0,e1,e2,e3]; omega
      simp only [↓vS,vT,shb,shv,qb,qc,cellsOf,wr,qa,simprocAttr,hn,e0,e1,↓jL h65,↓wT h65,hwq,e3,hw]
      refine ih 1 ⟨by omega,?_⟩ (by omega) _ _ (Wk.mk _ _ [0] ?_ ?_ ?_ rfl)
      ·rw [hI,hok]; simp [hx]
      ·simp [vw,qf]
       exact qz (by decide) (by decide)
      ·simp [vw,zj]
      ·simp
    ·have hwq:¬ IntKind.wrap .u32 (c.act.tdiv 65536) = 5:=by rw [qca (kB r0 r1).1 (by have:=(kB r0 r1).2; omega)]; exact e2
     have hwf:zI none l.calls = false:=by rw [hI]; simp [okC,wZ r0 r1,e0,e1,e2]
     simp only [↓vS,vT,shb,shv,qb,qc,cellsOf,wr,qa,simprocAttr,hn,e0,e1,↓jL h65,hwq]
     simp [vZ,hwf]
   ·have hp:(0:Int) < (j:Int):=by omega
    have hpl:j - 1 < l.calls.length:=by omega
    have hy:l.calls[j - 1]? = some l.calls[j - 1]:=List.getElem?_eq_getElem hpl
    have hw2:IntKind.wrap .i64 ((j:Int) - 1) = ((j - 1:Nat):Int):=by rw [qz (by omega) (by omega)]; omega
    have g2:(rC l.calls)[(j - 1) * 2]? = some (.s l.calls[j - 1].name):=kT hy (i:=0) (by decide)
    rw [if_neg h0,hy] at hI
    cases hlt2:ltS l.calls[j - 1].name c.name with
    | false =>
     have hwf:zI none l.calls = false:=by rw [hI]; simp [hlt2]
     simp only [↓vS,vT,shb,shv,qb,qc,cellsOf,wr,qa,simprocAttr,hp,hw2,hpl,hlt,g0,g2,hlt2]
     simp [vZ,hwf]
    | true =>
     have h65:(65536:Int) ≠ 0:=by decide
     by_cases e0:c.act = 0
     ·have hok:okC c = true:=by simp [okC,hk,yk,e0]
      simp only [↓vS,vT,shb,shv,qb,qc,cellsOf,wr,qa,simprocAttr,hp,hw2,hpl,hlt,g0,g2,hlt2,e0,hw]
      refine ih (j + 1) ⟨by omega,?_⟩ (by omega) _ _ (Wk.mk _ _ [0] ?_ ?_ ?_ rfl)
      ·rw [hI,hok]; simp [hlt2,hx]
      ·simp [vw,qf]
      ·simp [vw,zj]
      ·simp
     by_cases e1:c.act = 2147483648
     ·have hok:okC c = true:=by simp [okC,hk,yk,e1]
      simp only [↓vS,vT,shb,shv,qb,qc,cellsOf,wr,qa,simprocAttr,hp,hw2,hpl,hlt,g0,g2,hlt2,e0,e1,hw]
      refine ih (j + 1) ⟨by omega,?_⟩ (by omega) _ _ (Wk.mk _ _ [0] ?_ ?_ ?_ rfl)
      ·rw [hI,hok]; simp [hlt2,hx]
      ·simp [vw,qf]
      ·simp [vw,zj]
      ·simp
     by_cases e2:c.act.tdiv 65536 = 5
     ·have hwq:IntKind.wrap .u32 (c.act.tdiv 65536) = 5:=by rw [e2]; decide
      by_cases e3:4095 < c.act.tmod 65536
      ·have e3':¬ c.act.tmod 65536 ≤ 4095:=by omega
       have hwf:zI none l.calls = false:=by rw [hI]; simp [okC,wZ r0 r1,e0,e1,e2,e3']
       simp only [↓vS,vT,shb,shv,qb,qc,cellsOf,wr,qa,simprocAttr,hp,hw2,hpl,hlt,g0,g2,hlt2,e0,e1,↓jL h65,↓wT h65,hwq,e3]
       simp [vZ,hwf]
      ·have hok:okC c = true:=by simp [okC,hk,wZ r0 r1,e0,e1,e2,e3]; omega
       simp only [↓vS,vT,shb,shv,qb,qc,cellsOf,wr,qa,simprocAttr,hp,hw2,hpl,hlt,g0,g2,hlt2,e0,e1,↓jL h65,↓wT h65,hwq,e3,hw]
       refine ih (j + 1) ⟨by omega,?_⟩ (by omega) _ _ (Wk.mk _ _ [0] ?_ ?_ ?_ rfl)
       ·rw [hI,hok]; simp [hlt2,hx]
       ·simp [vw,qf]
       ·simp [vw,zj]
       ·simp
     ·have hwq:¬ IntKind.wrap .u32 (c.act.tdiv 65536) = 5:=by rw [qca (kB r0 r1).1 (by have:=(kB r0 r1).2; omega)]; exact e2
      have hwf:zI none l.calls = false:=by rw [hI]; simp [okC,wZ r0 r1,e0,e1,e2]
      simp only [↓vS,vT,shb,shv,qb,qc,cellsOf,wr,qa,simprocAttr,hp,hw2,hpl,hlt,g0,g2,hlt2,e0,e1,↓jL h65,hwq]
      simp [vZ,hwf]
 ·rw [List.drop_of_length_le (by omega),zI] at hI
  simp only [↓vS,vT,shb,shv,qb,qc,cellsOf,wr,qa,simprocAttr,hlt]
  simp [vZ,hI]
theorem qp8 {g1:Nat} (hc:qw P f (wj g1) = true) (h1:∀ s,qg P g1 [.s s] (.b (jl s))):qcl P f:=by
 intro l hl hR
 refine qg.mk hc rfl ?_
 simp only [wj,zj,qi,H0,mkT,mkH,trL,vI,simprocAttr]
 by_cases m1:2 < l.mode
 ·have hw:xK l = false:=by simp [xK]; omega
  simp only [↓vS,vT,shb,shv,qb,qc,cellsOf,wr,qa,simprocAttr,m1]
  simp [vZ,hw]
 have tail:(l.mode ≠ 0 ∨ l.calls = []) → xK l = zI none l.calls:=fun h=>by
  have:(decide (l.mode ≤ 2) && (decide (l.mode ≠ 0) || decide (l.calls = []))) = true:=by
   simp only [Bool.and_eq_true,Bool.or_eq_true,decide_eq_true_eq]; exact ⟨by omega,h⟩
  unfold xK; rw [this]; rfl
 by_cases m2:l.mode = 0
 ·by_cases m3:(0:Int) < l.calls.length
  ·have hne:l.calls ≠ []:=by intro h; rw [h] at m3; simp at m3
   have hw:xK l = false:=by simp [xK,m2,hne]
   simp only [↓vS,vT,shb,shv,qb,qc,cellsOf,wr,qa,simprocAttr,m1,m2,m3]
   simp [vZ,hw]
  ·have hz:l.calls = []:=List.eq_nil_of_length_eq_zero (by omega)
   rw [tail (.inr hz)]
   simp only [↓vS,vT,shb,shv,qb,qc,cellsOf,wr,qa,simprocAttr,m1,m2,m3]
   refine qcX h1 l hl hR (Wk.mk _ _ [0] ?_ ?_ ?_ rfl)
   ·simp [vw]
   ·simp [vw,zj,m2]
   ·simp
 ·rw [tail (.inl m2)]
  simp only [↓vS,vT,shb,shv,qb,qc,cellsOf,wr,qa,simprocAttr,m1,m2]
  refine qcX h1 l hl hR (Wk.mk _ _ [0] ?_ ?_ ?_ rfl)
  ·simp [vw]
  ·simp [vw,zj]
  ·simp
end Go.Kc
end
section
/- What the document makes of lists: Find, take, Take, Put, Same. Condition: the functions' texts are these. -/
namespace Go.Kc
variable {P:Program} {f:Nat}
def jU:IFn:=⟨[.tmp 4,.tmp 5],.seq (.r [.q 2 (.box (.t 0)),.m 4 (.c (.i .u32 0)),.m 5 (.c (.b false))]) (.seq (.seq (.r [.m 6 (.k 0)]) (.blk 0 (.loop (.seq (.seq (.r [.m 7 (.t 6),.q 8 (.fAddr 1 (.t 2)),.q 9 (.load1 (.t 8)),.q 10 (.len false (.t 9)),.q 11 (.bin .lss (.t 7) (.t 10))]) (.cond (.t 11) (.skip) (.exit 0))) (.seq (.blk 1 (.seq (.r [.q 14 (.fAddr 1 (.t 2)),.q 15 (.load1 (.t 14)),.m 16 (.t 6),.q 17 (.iAddrS 2 (.t 15) (.t 16)),.q 18 (.fAddr 0 (.t 17)),.q 19 (.load1 (.t 18)),.m 20 (.t 1),.q 21 (.bin .eql (.t 19) (.t 20))]) (.cond (.t 21) (.seq (.r [.q 22 (.fAddr 1 (.t 2)),.q 23 (.load1 (.t 22)),.m 24 (.t 6),.q 25 (.iAddrS 2 (.t 23) (.t 24)),.q 26 (.fAddr 1 (.t 25)),.q 27 (.load1 (.t 26)),.m 4 (.t 27),.m 5 (.c (.b true))]) (.ret)) (.skip)))) (.r [.m 12 (.t 6),.q 13 (.bin .add (.t 12) (.k 1)),.m 6 (.t 13)])))))) (.seq (.r [.m 4 (.c (.i .u32 0)),.m 5 (.c (.b false))]) (.ret)))⟩
theorem qpJ (hc:qw P f jU = true):Q4 P f:=by
 intro l s hl
 refine qg.mk hc rfl ?_
 simp only [jU,zj,qi,H0,mkT,mkH,trL,vI,simprocAttr]
 simp only [↓vS,vT,shb,shv,qb,qc,cellsOf,wr,qa,simprocAttr]
 refine SL.loop (α:=Nat) (fun j=>[(1,.s s),(2,.ptr 0 0),(4,.i .u32 0),(5,.b false),(6,.i .i64 j)]) (fun _=>[.cells 0 true false (zj l)]) (fun j=>j ≤ l.calls.length ∧ xy l.calls s = xy (l.calls.drop j) s) (fun j=>l.calls.length - j) 0 [0] ?_ ?_ ?_ rfl ?_ ?_
 ·simp [vw]
 ·simp [vw,zj]
 ·simp
 ·exact ⟨Nat.zero_le _,rfl⟩
 rintro j ⟨hj,hI⟩ G ih
 simp only [qi,H0,mkT,mkH,trL,vI,simprocAttr,zj]
 by_cases hlt:j < l.calls.length
 ·have hx:l.calls[j]? = some l.calls[j]:=List.getElem?_eq_getElem hlt
  have g0:(rC l.calls)[j * 2]? = some (.s l.calls[j].name):=kT hx (i:=0) (by decide)
  have g1:(rC l.calls)[j * 2 + 1]? = some (.i .u32 l.calls[j].act):=kT hx (i:=1) (by decide)
  have hw:IntKind.wrap .i64 ((j:Int) + 1) = ((j + 1:Nat):Int):=by rw [qz (by omega) (by omega)]; omega
  rw [List.drop_eq_getElem_cons hlt] at hI
  generalize l.calls[j] = c at hx g0 g1 hI
  by_cases he:c.name = s
  ·have hf:xy l.calls s = some c:=by rw [hI,← he,qds]
   simp only [↓vS,vT,shb,shv,qb,qc,cellsOf,wr,qa,simprocAttr,hlt,g0,g1,he]
   simp [vZ,hf]
  ·have hf:xy l.calls s = xy (l.calls.drop (j + 1)) s:=by rw [hI,qdt (Ne.symm he)]
   simp only [↓vS,vT,shb,shv,qb,qc,cellsOf,wr,qa,simprocAttr,hlt,g0,he,hw]
   refine ih (j + 1) ⟨by omega,hf⟩ (by omega) _ _ (Wk.mk _ _ [0] ?_ ?_ ?_ rfl)
   ·simp [vw]
   ·simp [vw,zj]
   ·simp
 ·have hf:xy l.calls s = none:=by rw [hI,List.drop_of_length_le (by omega)]; rfl
  simp only [↓vS,vT,shb,shv,qb,qc,cellsOf,wr,qa,simprocAttr,hlt]
  simp [vZ,hf]
end Go.Kc
end
section
/- What fold.Put and fold.Take answer, in rows of one's own. Condition: the functions' texts are these. -/
namespace Go.Kc
variable {P:Program} {f:Nat}
end Go.Kc
end
section
/- FoldLists: what the law answers. Condition: the functions' texts are these. -/
namespace Go.Kc
variable {P:Program} {f:Nat}
def qba (x:Int):List Int → Nat → Int
 | [],_=>-1
 | y :: ys,j=>if x = y then (j:Int) else qba x ys (j + 1)
end Go.Kc
end
section
/- What policy.May answers. Condition: the functions' texts are these. -/
namespace Go.Kc
variable {P:Program} {f:Nat}
def jC:IFn:=⟨[.tmp 4],.seq (.r [.m 4 (.k 0)]) (.seq (.seq (.r [.m 6 (.t 0),.q 7 (.len false (.t 6)),.m 8 (.k 0)]) (.blk 0 (.loop (.seq (.r [.q 9 (.bin .lss (.t 8) (.t 7))]) (.seq (.cond (.t 9) (.skip) (.exit 0)) (.seq (.blk 1 (.seq (.r [.m 10 (.t 8),.m 5 (.t 10)]) (.seq (.r [.m 11 (.t 1),.m 12 (.t 0),.m 13 (.t 5),.q 14 (.iAddrS 1 (.t 12) (.t 13)),.q 15 (.load1 (.t 14)),.q 16 (.bin .eql (.t 11) (.t 15))]) (.cond (.t 16) (.seq (.r [.m 17 (.t 5),.m 4 (.t 17)]) (.ret)) (.skip))))) (.r [.q 18 (.bin .add (.t 8) (.k 1)),.m 8 (.t 18)]))))))) (.seq (.r [.q 4 (.mov (.c (.i .i64 (-1))))]) (.ret)))⟩
theorem qnB (hc:qw P f jC = true) (xs:List Int) (x:Int) (hl:xs.length ≤ qh):qg P f [.fz xs.length (rI .i64 xs),.i .i64 x] (.i .i64 (qba x xs 0)):=by
 refine qg.mk hc (by simp [qK,clo,qd]) ?_
 simp only [jC,qi,H0,mkT,mkH,trL,vI,simprocAttr]
 simp only [↓vS,vT,shb,shv,qb,qc,cellsOf,wr,qa,simprocAttr]
 refine SL.loop (α:=Nat) (fun j=>[(0,.fz xs.length (rI .i64 xs)),(1,.i .i64 x),(7,.i .i64 xs.length),(8,.i .i64 j)]) (fun _=>[]) (fun j=>j ≤ xs.length ∧ qba x xs 0 = qba x (xs.drop j) j) (fun j=>xs.length - j) 0 [] ?_ ?_ ?_ rfl ?_ ?_
 ·simp [vw,qd]
 ·trivial
 ·simp
 ·simp
 rintro j ⟨hj,hI⟩ G ih
 simp only [qi,H0,mkT,mkH,trL,vI,simprocAttr]
 by_cases hlt:j < xs.length
 ·have hx:xs[j]? = some xs[j]:=List.getElem?_eq_getElem hlt
  have hw:IntKind.wrap .i64 ((j:Int) + 1) = (j:Int) + 1:=qz (by omega) (by have:=hl; simp only [qh] at this; omega)
  rw [List.drop_eq_getElem_cons hlt,qba] at hI
  simp only [↓vS,vT,shb,shv,qb,qc,cellsOf,wr,qa,simprocAttr,hlt,Nat.mul_one,zF,hx,Option.map_some,hw]
  split
  ·rename_i he
   simp only [he,vZ,if_true] at hI ⊢
   simp [hI]
  ·rename_i he
   rw [if_neg he] at hI
   refine ih (j + 1) ⟨by omega,hI⟩ (by omega) _ _ (Wk.mk _ _ [] ?_ ?_ ?_ rfl)
   ·simp [vw,qd]
   ·trivial
   ·simp
 ·simp only [↓vS,vT,shb,shv,qb,qc,cellsOf,wr,qa,simprocAttr,hlt,vZ]
  rw [List.drop_eq_nil_of_le (by omega)] at hI
  simp [hI,qba]
theorem qcI (x:Int):∀ (l:List Int) (j:Nat),decide (0 ≤ qba x l j) = decide (x ∈ l)
 | [],j=>by simp [qba]
 | y :: l,j=>by
  rw [qba]
  by_cases h:x = y
  ·simp [h]
  ·rw [if_neg h,qcI x l (j + 1)]; simp [h]
def x4 (f_slices_Index_int_int:Nat):IFn:=⟨[.tmp 4],.seq (.r [.m 4 (.c (.b false))]) (.seq (.r [.m 5 (.t 0),.m 6 (.t 1),.l 7 f_slices_Index_int_int [.t 5,.t 6],.q 8 (.bin .geq (.t 7) (.k 0)),.m 4 (.t 8)]) (.ret))⟩
theorem qiJ {g:Nat} (hc:qw P f (x4 g) = true) (hg:∀ (xs:List Int) (x:Int),xs.length ≤ qh → qg P g [.fz xs.length (rI .i64 xs),.i .i64 x] (.i .i64 (qba x xs 0))) (xs:List Int) (x:Int) (hl:xs.length ≤ qh):qg P f [.fz xs.length (rI .i64 xs),.i .i64 x] (.b (decide (x ∈ xs))):=by
 refine qg.mk hc (by simp [qK,clo,qd]) ?_
 simp only [x4,qi,H0,mkT,mkH,trL,vI,simprocAttr]
 simp only [↓vS,vT,shb,shv,qb,qc,cellsOf,wr,qa,simprocAttr]
 refine (hg xs x hl).sc ?_
 simp only [↓vS,vT,shb,shv,qb,qc,cellsOf,wr,qa,simprocAttr]
 simp [vZ,← qcI x xs 0]
def inA (l:List Int) (x:Int):Bool:=decide (l = []) || decide (x ∈ l)
def qaJ (f_slices_Contains_int_int:Nat):IFn:=⟨[.tmp 4],.seq (.r [.m 4 (.c (.b false))]) (.seq (.r [.m 5 (.t 0),.q 6 (.len false (.t 5)),.q 7 (.bin .eql (.t 6) (.k 0)),.m 8 (.t 7),.g 9 (.mov (.t 0)) 8 false,.g 10 (.mov (.t 1)) 8 false,⟨(some 11),.callF f_slices_Contains_int_int [.t 9,.t 10],(some (8,false))⟩,.q 12 (.pick (.t 8) (.c (.b true)) (.t 11)),.m 4 (.t 12)]) (.ret))⟩
theorem qpz {g:Nat} (hc:qw P f (qaJ g) = true) (hg:∀ (xs:List Int) (x:Int),xs.length ≤ qh → qg P g [.fz xs.length (rI .i64 xs),.i .i64 x] (.b (decide (x ∈ xs)))) (xs:List Int) (x:Int) (hl:xs.length ≤ qh):qg P f [.fz xs.length (rI .i64 xs),.i .i64 x] (.b (inA xs x)):=by
 refine qg.mk hc (by simp [qK,clo,qd]) ?_
 simp only [qaJ,qi,H0,mkT,mkH,trL,vI,simprocAttr]
 by_cases h:xs.length = 0
 ·have h':((xs.length:Int) = 0) = True:=eq_true (by omega)
  have hn:xs = []:=List.eq_nil_of_length_eq_zero h
  simp only [↓vS,vT,shb,shv,qb,qc,cellsOf,wr,qa,simprocAttr,h']
  simp [vZ,inA,hn]
 ·have h':((xs.length:Int) = 0) = False:=eq_false (by omega)
  have hn:xs ≠ []:=fun hh=>h (by rw [hh]; rfl)
  simp only [↓vS,vT,shb,shv,qb,qc,cellsOf,wr,qa,simprocAttr,h']
  refine (hg xs x hl).sc ?_
  simp only [↓vS,vT,shb,shv,qb,qc,cellsOf,wr,qa,simprocAttr]
  simp [vZ,inA,hn]
def y5 (a:Int):List UInt8:=if a < 0 ∨ 6 ≤ a then [] else (kA.getD a.toNat ([],0)).1
def QO (f_arch_table:Nat):IFn:=⟨[.tmp 2],.seq (.r [.m 2 (.c (.s []))]) (.seq (.seq (.r [.m 3 (.t 0),.q 4 (.bin .lss (.t 3) (.k 0)),.m 5 (.t 4),.g 6 (.mov (.t 0)) 5 false,.g 7 (.bin .geq (.t 6) (.k 6)) 5 false,.q 8 (.pick (.t 5) (.c (.b true)) (.t 7))]) (.cond (.t 8) (.seq (.r [.m 2 (.c (.s []))]) (.ret)) (.skip))) (.seq (.r [.l 9 f_arch_table [],.m 10 (.t 0),.q 11 (.idxA 6 2 true (.t 9) (.t 10)),.q 12 (.fld 0 none (.t 11)),.m 2 (.t 12)]) (.ret)))⟩
theorem qon {g:Nat} (hc:qw P f (QO g) = true) (hg:qg P g [] (.agg (kA.flatMap (zp .u32)))) (a:Int):qg P f [.i .i64 a] (.s (y5 a)):=by
 refine qg.mk hc rfl ?_
 simp only [QO,qi,H0,mkT,mkH,trL,vI,simprocAttr]
 by_cases h1:a < 0
 ·simp only [↓vS,vT,shb,shv,qb,qc,cellsOf,wr,qa,simprocAttr,h1]
  simp [vZ,y5,h1]
 by_cases h2:6 ≤ a
 ·simp only [↓vS,vT,shb,shv,qb,qc,cellsOf,wr,qa,simprocAttr,h1,h2]
  simp [vZ,y5,h2]
 simp only [↓vS,vT,shb,shv,qb,qc,cellsOf,wr,qa,simprocAttr,h1,h2]
 refine hg.sc ?_
 have h3:a = 0 ∨ a = 1 ∨ a = 2 ∨ a = 3 ∨ a = 4 ∨ a = 5:=by omega
 rcases h3 with rfl | rfl | rfl | rfl | rfl | rfl <;>
 ·simp only [↓vS,vT,shb,shv,qb,qc,cellsOf,wr,qa,simprocAttr,kA,zp,List.flatMap_cons,List.flatMap_nil]
  simp [vZ,y5,kA]
theorem qcf (a:Int):(y5 a ≠ []) ↔ (0 ≤ a ∧ a < 6):=by
 unfold y5
 constructor
 ·intro h
  by_cases hh:a < 0 ∨ 6 ≤ a
  ·rw [if_pos hh] at h; exact absurd rfl h
  ·omega
 ·intro h
  rw [if_neg (by omega)]
  have h3:a = 0 ∨ a = 1 ∨ a = 2 ∨ a = 3 ∨ a = 4 ∨ a = 5:=by omega
  rcases h3 with rfl | rfl | rfl | rfl | rfl | rfl <;> decide
def qT (is:Int → Bool):Option Int → List Int → Bool
 | _,[]=>true
 | o,x :: l=>is x && (o.elim true fun b=>decide (b < x)) && qT is (some x) l
def wQ:IFn:=⟨[.tmp 4],.seq (.r [.m 4 (.c (.b false))]) (.seq (.seq (.r [.m 7 (.t 0),.q 8 (.len false (.t 7)),.m 9 (.k 0)]) (.blk 0 (.loop (.seq (.r [.q 10 (.bin .lss (.t 9) (.t 8))]) (.seq (.cond (.t 10) (.skip) (.exit 0)) (.seq (.blk 1 (.seq (.r [.m 11 (.t 9),.q 12 (.iAddrS 1 (.t 7) (.t 9)),.q 13 (.load1 (.t 12)),.m 5 (.t 11),.m 6 (.t 13)]) (.seq (.r [.m 14 (.t 1),.m 15 (.t 6),⟨(some 16),.callV (.t 14) [.t 15],none⟩,.q 17 (.un .not (.t 16)),.m 18 (.t 17),.g 19 (.mov (.t 5)) 18 false,.g 20 (.bin .gtr (.t 19) (.k 0)) 18 false,.g 21 (.mov (.t 20)) 18 false,.g 22 (.mov (.t 0)) 21 true,.g 23 (.mov (.t 5)) 21 true,.g 24 (.bin .sub (.t 23) (.k 1)) 21 true,.g 25 (.iAddrS 1 (.t 22) (.t 24)) 21 true,.g 26 (.load1 (.t 25)) 21 true,.g 27 (.mov (.t 6)) 21 true,.g 28 (.bin .geq (.t 26) (.t 27)) 21 true,.g 29 (.pick (.t 21) (.t 28) (.c (.b false))) 18 false,.q 30 (.pick (.t 18) (.c (.b true)) (.t 29))]) (.cond (.t 30) (.seq (.r [.m 4 (.c (.b false))]) (.ret)) (.skip))))) (.r [.q 31 (.bin .add (.t 9) (.k 1)),.m 9 (.t 31)]))))))) (.seq (.r [.m 4 (.c (.b true))]) (.ret)))⟩
theorem qnQ (hc:qw P f wQ = true) (xs:List Int) (g:Nat) (is:Int → Bool) (hg:∀ x,qg P g [.i .i64 x] (.b (is x))) (hl:xs.length ≤ 100000):qg P f [.fz xs.length (rI .i64 xs),.fn g [] []] (.b (qT is none xs)):=by
 refine qg.mk hc (by simp [qK,clo,qd]) ?_
 simp only [wQ,qi,H0,mkT,mkH,trL,vI,simprocAttr]
 simp only [↓vS,vT,shb,shv,qb,qc,cellsOf,wr,qa,simprocAttr]
 refine SL.loop (α:=Nat) (fun j=>[(0,.fz xs.length (rI .i64 xs)),(1,.fn g [] []),(7,.fz xs.length (rI .i64 xs)),(8,.i .i64 xs.length),(9,.i .i64 j)]) (fun _=>[])
  (fun j=>j ≤ xs.length ∧ qT is none xs = qT is (if j = 0 then none else xs[j - 1]?) (xs.drop j)) (fun j=>xs.length - j) 0 [] ?_ ?_ ?_ rfl ?_ ?_
 ·simp [vw,qd]
 ·trivial
 ·simp
 ·exact ⟨Nat.zero_le _,rfl⟩
 rintro j ⟨hj,hI⟩ G ih
 simp only [qi,H0,mkT,mkH,trL,vI,simprocAttr]
 by_cases hlt:j < xs.length
 ·have hx:xs[j]? = some xs[j]:=List.getElem?_eq_getElem hlt
  have hw:IntKind.wrap .i64 ((j:Int) + 1) = ((j + 1:Nat):Int):=by rw [qz (by omega) (by omega)]; omega
  rw [List.drop_eq_getElem_cons hlt,qT] at hI
  generalize hc0:xs[j] = c at hI hx
  simp only [↓vS,vT,shb,shv,qb,qc,cellsOf,wr,qa,simprocAttr,hlt,Nat.mul_one,zF,hx,Option.map_some]
  refine (hg c).sc ?_
  cases hk:is c with
  | false =>
   have hw:qT is none xs = false:=by rw [hI]; simp [hk]
   simp only [↓vS,vT,shb,shv,qb,qc,cellsOf,wr,qa,simprocAttr]
   simp [vZ,hw]
  | true =>
   by_cases h0:j = 0
   ·subst h0
    have hn:¬ (0:Int) < ((0:Nat):Int):=by decide
    simp only [↓vS,vT,shb,shv,qb,qc,cellsOf,wr,qa,simprocAttr,hn,hw]
    refine ih 1 ⟨by omega,?_⟩ (by omega) _ _ (Wk.mk _ _ [] ?_ ?_ ?_ rfl)
    ·rw [hI,hk]; simp [hx]
    ·simp [vw,qd]
     exact qz (by decide) (by decide)
    ·trivial
    ·simp
   ·have hp:(0:Int) < (j:Int):=by omega
    have hpl:j - 1 < xs.length:=by omega
    have hy:xs[j - 1]? = some xs[j - 1]:=List.getElem?_eq_getElem hpl
    have hw2:IntKind.wrap .i64 ((j:Int) - 1) = ((j - 1:Nat):Int):=by rw [qz (by omega) (by omega)]; omega
    rw [if_neg h0,hy] at hI
    by_cases hlt2:c ≤ xs[j - 1]
    ·have hwf:qT is none xs = false:=by rw [hI]; simp [Int.not_lt.2 hlt2]
     simp only [↓vS,vT,shb,shv,qb,qc,cellsOf,wr,qa,simprocAttr,hp,hw2,hpl,hy,Nat.mul_one,zF,Option.map_some,hlt2]
     simp [vZ,hwf]
    ·simp only [↓vS,vT,shb,shv,qb,qc,cellsOf,wr,qa,simprocAttr,hp,hw2,hpl,hy,Nat.mul_one,zF,Option.map_some,hlt2,hw]
     refine ih (j + 1) ⟨by omega,?_⟩ (by omega) _ _ (Wk.mk _ _ [] ?_ ?_ ?_ rfl)
     ·rw [hI,hk]; simp [hx]; omega
     ·simp [vw,qd]
     ·trivial
     ·simp
 ·rw [List.drop_of_length_le (by omega),qT] at hI
  simp only [↓vS,vT,shb,shv,qb,qc,cellsOf,wr,qa,simprocAttr,hlt]
  simp [vZ,hI]
def jS:IFn:=⟨[.tmp 4],.seq (.r [.m 4 (.c (.b false))]) (.seq (.seq (.r [.m 7 (.t 0),.q 8 (.len false (.t 7)),.m 9 (.k 0)]) (.blk 0 (.loop (.seq (.r [.q 10 (.bin .lss (.t 9) (.t 8))]) (.seq (.cond (.t 10) (.skip) (.exit 0)) (.seq (.blk 1 (.seq (.r [.m 11 (.t 9),.q 12 (.iAddrS 1 (.t 7) (.t 9)),.q 13 (.load1 (.t 12)),.m 5 (.t 11),.m 6 (.t 13)]) (.seq (.r [.m 14 (.t 1),.m 15 (.t 6),⟨(some 16),.callV (.t 14) [.t 15],none⟩,.q 17 (.un .not (.t 16)),.m 18 (.t 17),.g 19 (.mov (.t 5)) 18 false,.g 20 (.bin .gtr (.t 19) (.k 0)) 18 false,.g 21 (.mov (.t 20)) 18 false,.g 22 (.mov (.t 0)) 21 true,.g 23 (.mov (.t 5)) 21 true,.g 24 (.bin .sub (.t 23) (.k 1)) 21 true,.g 25 (.iAddrS 1 (.t 22) (.t 24)) 21 true,.g 26 (.load1 (.t 25)) 21 true,.g 27 (.mov (.t 6)) 21 true,.g 28 (.bin .geq (.t 26) (.t 27)) 21 true,.g 29 (.pick (.t 21) (.t 28) (.c (.b false))) 18 false,.q 30 (.pick (.t 18) (.c (.b true)) (.t 29))]) (.cond (.t 30) (.seq (.r [.m 4 (.c (.b false))]) (.ret)) (.skip))))) (.r [.q 31 (.bin .add (.t 9) (.k 1)),.m 9 (.t 31)]))))))) (.seq (.r [.m 4 (.c (.b true))]) (.ret)))⟩
theorem qnR (hc:qw P f jS = true) (xs:List Int) (g:Nat) (is:Int → Bool) (hg:∀ x,qg P g [.i .u32 x] (.b (is x))) (hl:xs.length ≤ 100000):qg P f [.fz xs.length (rI .u32 xs),.fn g [] []] (.b (qT is none xs)):=by
 refine qg.mk hc (by simp [qK,clo,qd]) ?_
 simp only [jS,qi,H0,mkT,mkH,trL,vI,simprocAttr]
 simp only [↓vS,vT,shb,shv,qb,qc,cellsOf,wr,qa,simprocAttr]
 refine SL.loop (α:=Nat) (fun j=>[(0,.fz xs.length (rI .u32 xs)),(1,.fn g [] []),(7,.fz xs.length (rI .u32 xs)),(8,.i .i64 xs.length),(9,.i .i64 j)]) (fun _=>[])
  (fun j=>j ≤ xs.length ∧ qT is none xs = qT is (if j = 0 then none else xs[j - 1]?) (xs.drop j)) (fun j=>xs.length - j) 0 [] ?_ ?_ ?_ rfl ?_ ?_
 ·simp [vw,qd]
 ·trivial
 ·simp
 ·exact ⟨Nat.zero_le _,rfl⟩
 rintro j ⟨hj,hI⟩ G ih
 simp only [qi,H0,mkT,mkH,trL,vI,simprocAttr]
 by_cases hlt:j < xs.length
 ·have hx:xs[j]? = some xs[j]:=List.getElem?_eq_getElem hlt
  have hw:IntKind.wrap .i64 ((j:Int) + 1) = ((j + 1:Nat):Int):=by rw [qz (by omega) (by omega)]; omega
  rw [List.drop_eq_getElem_cons hlt,qT] at hI
  generalize hc0:xs[j] = c at hI hx
  simp only [↓vS,vT,shb,shv,qb,qc,cellsOf,wr,qa,simprocAttr,hlt,Nat.mul_one,zF,hx,Option.map_some]
  refine (hg c).sc ?_
  cases hk:is c with
  | false =>
   have hw:qT is none xs = false:=by rw [hI]; simp [hk]
   simp only [↓vS,vT,shb,shv,qb,qc,cellsOf,wr,qa,simprocAttr]
   simp [vZ,hw]
  | true =>
   by_cases h0:j = 0
   ·subst h0
    have hn:¬ (0:Int) < ((0:Nat):Int):=by decide
    simp only [↓vS,vT,shb,shv,qb,qc,cellsOf,wr,qa,simprocAttr,hn,hw]
    refine ih 1 ⟨by omega,?_⟩ (by omega) _ _ (Wk.mk _ _ [] ?_ ?_ ?_ rfl)
    ·rw [hI,hk]; simp [hx]
    ·simp [vw,qd]
     exact qz (by decide) (by decide)
    ·trivial
    ·simp
   ·have hp:(0:Int) < (j:Int):=by omega
    have hpl:j - 1 < xs.length:=by omega
    have hy:xs[j - 1]? = some xs[j - 1]:=List.getElem?_eq_getElem hpl
    have hw2:IntKind.wrap .i64 ((j:Int) - 1) = ((j - 1:Nat):Int):=by rw [qz (by omega) (by omega)]; omega
    rw [if_neg h0,hy] at hI
    by_cases hlt2:c ≤ xs[j - 1]
    ·have hwf:qT is none xs = false:=by rw [hI]; simp [Int.not_lt.2 hlt2]
     simp only [↓vS,vT,shb,shv,qb,qc,cellsOf,wr,qa,simprocAttr,hp,hw2,hpl,hy,Nat.mul_one,zF,Option.map_some,hlt2]
     simp [vZ,hwf]
    ·simp only [↓vS,vT,shb,shv,qb,qc,cellsOf,wr,qa,simprocAttr,hp,hw2,hpl,hy,Nat.mul_one,zF,Option.map_some,hlt2,hw]
     refine ih (j + 1) ⟨by omega,?_⟩ (by omega) _ _ (Wk.mk _ _ [] ?_ ?_ ?_ rfl)
     ·rw [hI,hk]; simp [hx]; omega
     ·simp [vw,qd]
     ·trivial
     ·simp
 ·rw [List.drop_of_length_le (by omega),qT] at hI
  simp only [↓vS,vT,shb,shv,qb,qc,cellsOf,wr,qa,simprocAttr,hlt]
  simp [vZ,hI]
def xo (n:Int):List (List UInt8 × Int) → List UInt8
 | []=>[]
 | p :: l=>if p.2 = n then p.1 else xo n l
def vi:IFn:=⟨[.tmp 4],.seq (.r [.m 4 (.c (.s []))]) (.seq (.seq (.r [.m 7 (.t 0),.q 8 (.len false (.t 7)),.m 9 (.k 0)]) (.blk 0 (.loop (.seq (.r [.q 10 (.bin .lss (.t 9) (.t 8))]) (.seq (.cond (.t 10) (.skip) (.exit 0)) (.seq (.blk 1 (.seq (.r [.q 11 (.iAddrS 2 (.t 7) (.t 9)),.q 12 (.loadN 2 (.t 11)),.q 6 (.alloc [.s [],.i .u32 0]),.u (.store 2 (.t 6) (.t 12))]) (.seq (.r [.q 13 (.fAddr 1 (.t 6)),.q 14 (.load1 (.t 13)),.m 15 (.t 1),.q 16 (.bin .eql (.t 14) (.t 15))]) (.cond (.t 16) (.seq (.r [.q 17 (.fAddr 0 (.t 6)),.q 18 (.load1 (.t 17)),.m 4 (.t 18)]) (.ret)) (.skip))))) (.r [.q 19 (.bin .add (.t 9) (.k 1)),.m 9 (.t 19)]))))))) (.seq (.r [.m 4 (.c (.s []))]) (.ret)))⟩
theorem qpV (hc:qw P f vi = true) (l:List (List UInt8 × Int)) (n:Int) (hl:l.length ≤ qh):qg P f [.fz l.length (l.flatMap (zp .u32)),.i .u32 n] (.s (xo n l)):=by
 refine qg.mk hc (by simp [qK,clo]) ?_
 simp only [vi,qi,H0,mkT,mkH,trL,vI,simprocAttr]
 simp only [↓vS,vT,shb,shv,qb,qc,cellsOf,wr,qa,simprocAttr]
 refine SL.loop (α:=Nat) (fun j=>[(1,.i .u32 n),(7,.fz l.length (l.flatMap (zp .u32))),(8,.i .i64 l.length),(9,.i .i64 j)]) (fun _=>[]) (fun j=>j ≤ l.length ∧ xo n l = xo n (l.drop j)) (fun j=>l.length - j) 0 [] ?_ ?_ ?_ rfl ?_ ?_
 ·simp [vw]
 ·trivial
 ·simp
 ·simp
 rintro j ⟨hj,hI⟩ G ih
 simp only [qi,H0,mkT,mkH,trL,vI,simprocAttr]
 by_cases hlt:j < l.length
 ·have hx:l[j]? = some l[j]:=List.getElem?_eq_getElem hlt
  have hw:IntKind.wrap .i64 ((j:Int) + 1) = (j:Int) + 1:=qz (by omega) (by have:=hl; simp only [qh] at this; omega)
  have he:=xz (f:=zp .u32) (m:=2) kz hx
  have hb:j * 2 + 2 ≤ (l.flatMap (zp .u32)).length:=by rw [xc (m:=2) kz]; omega
  rw [List.drop_eq_getElem_cons hlt,xo] at hI
  simp only [↓vS,vT,shb,shv,qb,qc,cellsOf,wr,qa,simprocAttr,hlt,hb,he,zp,hw]
  split
  ·rename_i hs
   rw [hI,if_pos hs]
   simp only [vZ,and_self,true_and]
  ·rename_i hs
   rw [if_neg hs] at hI
   refine ih (j + 1) ⟨by omega,hI⟩ (by omega) _ _ (Wk.mk _ _ [] ?_ ?_ ?_ rfl)
   ·simp [vw]
   ·trivial
   ·simp
 ·simp only [↓vS,vT,shb,shv,qb,qc,cellsOf,wr,qa,simprocAttr,hlt,vZ]
  rw [List.drop_eq_nil_of_le (by omega),xo] at hI
  rw [hI]
def wP (f_names_families f_names_of_uint32:Nat):IFn:=⟨[.tmp 2],.seq (.r [.m 2 (.c (.s []))]) (.seq (.r [.l 4 f_names_families [],.q 3 (.alloc [.s [],.i .u32 0,.s [],.i .u32 0,.s [],.i .u32 0,.s [],.i .u32 0,.s [],.i .u32 0,.s [],.i .u32 0,.s [],.i .u32 0,.s [],.i .u32 0]),.u (.store 16 (.t 3) (.t 4))]) (.seq (.r [.q 5 (.slcA 8 2 (.t 3) none none none),.m 6 (.t 0),.l 7 f_names_of_uint32 [.t 5,.t 6],.m 2 (.t 7)]) (.ret)))⟩
theorem qlF {g1 g2:Nat} (hc:qw P f (wP g1 g2) = true) (h1:qg P g1 [] (.agg (qJ.flatMap (zp .u32)))) (h2:∀ (l:List (List UInt8 × Int)) (n:Int),l.length ≤ qh → qg P g2 [.fz l.length (l.flatMap (zp .u32)),.i .u32 n] (.s (xo n l))) (n:Int):qg P f [.i .u32 n] (.s (xo n qJ)):=by
 refine qg.mk hc rfl ?_
 simp only [wP,qi,H0,mkT,mkH,trL,vI,simprocAttr]
 simp only [↓vS,vT,shb,shv,qb,qc,cellsOf,wr,qa,simprocAttr]
 refine h1.sc ?_
 simp only [↓vS,vT,shb,shv,qb,qc,cellsOf,wr,qa,simprocAttr,qJ,zp,List.flatMap_cons,List.flatMap_nil]
 refine (h2 qJ n (by decide)).lend (vs':=[.fz 8 (qJ.flatMap (zp .u32)),.i .u32 n]) ?_ rfl ?_
 ·refine .cons _ _ _ _ (.cut 2 rfl (Nat.le_refl _) ?_) (.cons _ _ _ _ (.i _ _) .nil)
  simp [vw,qJ,zp]
 simp only [↓vS,vT,shb,shv,qb,qc,cellsOf,wr,qa,simprocAttr,vZ,and_self,qJ]
def yd:IFn:=⟨[.tmp 2],.seq (.r [.q 1 (.box (.t 0)),.m 2 (.c (.b false))]) (.seq (.r [.q 3 (.fAddr 1 (.t 1)),.q 4 (.load1 (.t 3)),.q 5 (.bin .neq (.t 4) (.c (.i .u32 0))),.m 2 (.t 5)]) (.ret))⟩
theorem qqa (hc:qw P f yd = true) (c:GCall):qg P f [.agg (kj c)] (.b (decide (c.act ≠ 0))):=by
 refine qg.mk hc rfl ?_
 simp only [yd,kj,qi,H0,mkT,mkH,trL,vI,simprocAttr]
 by_cases h:c.act = 0 <;>
 ·simp only [↓vS,vT,shb,shv,qb,qc,cellsOf,wr,qa,simprocAttr,h]
  simp [vZ,h]
def ye (f_arch_Name:Nat):IFn:=⟨[.tmp 2],.seq (.r [.m 2 (.c (.b false))]) (.seq (.r [.m 3 (.t 0),.l 4 f_arch_Name [.t 3],.q 5 (.bin .neq (.t 4) (.c (.s []))),.m 2 (.t 5)]) (.ret))⟩
theorem qqb {g:Nat} (hc:qw P f (ye g) = true) (hg:∀ a,qg P g [.i .i64 a] (.s (y5 a))) (a:Int):qg P f [.i .i64 a] (.b (decide (0 ≤ a) && decide (a < 6))):=by
 refine qg.mk hc rfl ?_
 simp only [ye,qi,H0,mkT,mkH,trL,vI,simprocAttr]
 simp only [↓vS,vT,shb,shv,qb,qc,cellsOf,wr,qa,simprocAttr]
 refine (hg a).sc ?_
 have h:=qcf a
 by_cases h':y5 a = []
 ·have h2:(decide (0 ≤ a) && decide (a < 6)) = false:=by
   have:=mt h.2 (by simpa using h')
   simp only [Bool.and_eq_false_iff,decide_eq_false_iff_not]; omega
  simp only [↓vS,vT,shb,shv,qb,qc,cellsOf,wr,qa,simprocAttr,h']
  simp [vZ,h2]
 ·have h2:=h.1 h'
  simp only [↓vS,vT,shb,shv,qb,qc,cellsOf,wr,qa,simprocAttr,h']
  simp [vZ,h2]
def y1 (n:Int):Bool:=decide (xo n qJ ≠ [])
def yf (f_names_FamilyName:Nat):IFn:=⟨[.tmp 2],.seq (.r [.m 2 (.c (.b false))]) (.seq (.r [.m 3 (.t 0),.l 4 f_names_FamilyName [.t 3],.q 5 (.bin .neq (.t 4) (.c (.s []))),.m 2 (.t 5)]) (.ret))⟩
theorem qqc {g:Nat} (hc:qw P f (yf g) = true) (hg:∀ a,qg P g [.i .u32 a] (.s (xo a qJ))) (a:Int):qg P f [.i .u32 a] (.b (y1 a)):=by
 refine qg.mk hc rfl ?_
 simp only [yf,qi,H0,mkT,mkH,trL,vI,simprocAttr]
 simp only [↓vS,vT,shb,shv,qb,qc,cellsOf,wr,qa,simprocAttr]
 refine (hg a).sc ?_
 unfold y1
 generalize xo a qJ = s
 by_cases h':s = [] <;>
 ·simp only [↓vS,vT,shb,shv,qb,qc,cellsOf,wr,qa,simprocAttr,h']
  simp [vZ,h']
def zy (f_slices_IndexFunc_api_Call_api_Call:Nat):IFn:=⟨[.tmp 4],.seq (.r [.m 4 (.c (.b false))]) (.seq (.r [.m 5 (.t 0),.m 6 (.t 1),.l 7 f_slices_IndexFunc_api_Call_api_Call [.t 5,.t 6],.q 8 (.bin .geq (.t 7) (.k 0)),.m 4 (.t 8)]) (.ret))⟩
theorem qcJ {α:Type} (p:α → Bool):∀ (l:List α) (j:Nat),decide (0 ≤ vu p l j) = l.any p
 | [],j=>by simp [vu]
 | x :: l,j=>by
  rw [vu]
  by_cases h:p x = true
  ·simp [h]
  ·rw [if_neg h,qcJ p l (j + 1)]; simp [h]
theorem qgh {g:Nat} (hc:qw P f (zy g) = true) (h:Q5 2 P g) (l:List GCall) (k:Nat) (p:GCall → Bool) (hk:∀ c,qg P k [.agg (kj c)] (.b (p c))) (hl:l.length ≤ qh):qg P f [.fz l.length (rC l),.fn k [] []] (.b (l.any p)):=by
 refine qg.mk hc (by simp [qK,clo,qf]) ?_
 simp only [zy,qi,H0,mkT,mkH,trL,vI,simprocAttr]
 simp only [↓vS,vT,shb,shv,qb,qc,cellsOf,wr,qa,simprocAttr]
 refine (h kj p k [] [] l yS rfl rfl hl fun x _=>hk x).sc ?_
 simp only [↓vS,vT,shb,shv,qb,qc,cellsOf,wr,qa,simprocAttr]
 simp [vZ,← qcJ p l 0]
def wq (f_slices_ContainsFunc_api_Call_api_Call f_policy_May_1 f_policy_rises_int f_policy_May_2 f_policy_rises_uint32 f_policy_May_3 f_fold_May f_names_Spaces:Nat):ICode:=.seq (.reg true [.m 46 (.t 3),.m 47 (.t 46),.g 48 (.mov (.t 4)) 47 true,.q 49 (.pick (.t 47) (.t 48) (.c (.b false))),.m 50 (.t 49),.g 51 (.mov (.t 5)) 50 true,.q 52 (.pick (.t 50) (.t 51) (.c (.b false))),.m 53 (.t 52),.g 54 (.mov (.t 6)) 53 true,.q 55 (.pick (.t 53) (.t 54) (.c (.b false))),.m 56 (.t 55),.g 57 (.mov (.t 7)) 56 true,.q 58 (.pick (.t 56) (.t 57) (.c (.b false))),.m 59 (.t 58),.g 60 (.fAddr 1 (.t 1)) 59 true,.g 61 (.loadN 2 (.t 60)) 59 true,⟨(some 62),.callF f_fold_May [.t 61],(some (59,true))⟩,.q 63 (.pick (.t 59) (.t 62) (.c (.b false))),.m 64 (.t 63),.g 65 (.fAddr 4 (.t 1)) 64 true,.g 66 (.loadN 2 (.t 65)) 64 true,⟨(some 67),.callF f_fold_May [.t 66],(some (64,true))⟩,.q 68 (.pick (.t 64) (.t 67) (.c (.b false))),.m 69 (.t 68),.g 70 (.fAddr 8 (.t 1)) 69 true,.g 71 (.load1 (.t 70)) 69 true,⟨(some 72),.callF f_names_Spaces [],(some (69,true))⟩,.g 73 (.bin .andNot (.t 71) (.t 72)) 69 true,.g 74 (.bin .eql (.t 73) (.c (.i .u64 0))) 69 true,.q 75 (.pick (.t 69) (.t 74) (.c (.b false))),.m 2 (.t 75)]) (.ret)
def jg (f_slices_ContainsFunc_api_Call_api_Call f_policy_May_1 f_policy_rises_int f_policy_May_2 f_policy_rises_uint32 f_policy_May_3 f_fold_May f_names_Spaces:Nat):ICode:=.seq (.r [.q 40 (.fAddr 0 (.t 1)),.q 41 (.load1 (.t 40)),.l 42 f_policy_rises_int [.t 41,(.c (.fn f_policy_May_2 [] []))],.m 6 (.t 42)]) (.seq (.r [.q 43 (.fAddr 6 (.t 1)),.q 44 (.load1 (.t 43)),.l 45 f_policy_rises_uint32 [.t 44,(.c (.fn f_policy_May_3 [] []))],.m 7 (.t 45)]) (.cut (wq f_slices_ContainsFunc_api_Call_api_Call f_policy_May_1 f_policy_rises_int f_policy_May_2 f_policy_rises_uint32 f_policy_May_3 f_fold_May f_names_Spaces)))
def jf (f_slices_ContainsFunc_api_Call_api_Call f_policy_May_1 f_policy_rises_int f_policy_May_2 f_policy_rises_uint32 f_policy_May_3 f_fold_May f_names_Spaces:Nat):ICode:=.seq (.r [.q 26 (.fAddr 7 (.t 1)),.q 27 (.load1 (.t 26)),.q 28 (.bin .leq (.t 27) (.c (.i .u8 2))),.m 29 (.t 28),.g 30 (.fAddr 7 (.t 1)) 29 true,.g 31 (.load1 (.t 30)) 29 true,.g 32 (.bin .neq (.t 31) (.c (.i .u8 0))) 29 true,.g 33 (.mov (.t 32)) 29 true,.g 34 (.fAddr 6 (.t 1)) 33 false,.g 35 (.load1 (.t 34)) 33 false,.g 36 (.len false (.t 35)) 33 false,.g 37 (.bin .eql (.t 36) (.k 0)) 33 false,.g 38 (.pick (.t 33) (.c (.b true)) (.t 37)) 29 true,.q 39 (.pick (.t 29) (.t 38) (.c (.b false))),.m 5 (.t 39)]) (.cut (jg f_slices_ContainsFunc_api_Call_api_Call f_policy_May_1 f_policy_rises_int f_policy_May_2 f_policy_rises_uint32 f_policy_May_3 f_fold_May f_names_Spaces))
def Qe (f_slices_ContainsFunc_api_Call_api_Call f_policy_May_1 f_policy_rises_int f_policy_May_2 f_policy_rises_uint32 f_policy_May_3 f_fold_May f_names_Spaces:Nat):IFn:=⟨[.tmp 2],.seq (.r [.q 1 (.box (.t 0)),.m 2 (.c (.b false))]) (.seq (.r [.q 8 (.fAddr 4 (.t 1)),.q 9 (.fAddr 1 (.t 8)),.q 10 (.load1 (.t 9)),.l 11 f_slices_ContainsFunc_api_Call_api_Call [.t 10,(.c (.fn f_policy_May_1 [] []))],.q 12 (.un .not (.t 11)),.m 3 (.t 12)]) (.seq (.r [.q 13 (.fAddr 3 (.t 1)),.q 14 (.load1 (.t 13)),.q 15 (.bin .eql (.t 14) (.c (.i .u32 2147483648))),.m 16 (.t 15),.g 17 (.fAddr 3 (.t 1)) 16 false,.g 18 (.load1 (.t 17)) 16 false,.g 19 (.bin .geq (.t 18) (.c (.i .u32 327680))) 16 false,.g 20 (.mov (.t 19)) 16 false,.g 21 (.fAddr 3 (.t 1)) 20 true,.g 22 (.load1 (.t 21)) 20 true,.g 23 (.bin .leq (.t 22) (.c (.i .u32 331775))) 20 true,.g 24 (.pick (.t 20) (.t 23) (.c (.b false))) 16 false,.q 25 (.pick (.t 16) (.c (.b true)) (.t 24)),.m 4 (.t 25)]) (.cut (jf f_slices_ContainsFunc_api_Call_api_Call f_policy_May_1 f_policy_rises_int f_policy_May_2 f_policy_rises_uint32 f_policy_May_3 f_fold_May f_names_Spaces))))⟩
noncomputable def jX (p:Pol):Bool:=xK p.filter && xK p.log && decide (vb .u64 p.spaces 2114060416 = 0)
theorem qjv {g1 g2 g3 g4 g5 g6 g7 g8:Nat} (h7:∀ l:GList,l.calls.length ≤ 100000 → qg P g7 [.agg (zj l)] (.b (xK l)))
  (h8:qg P g8 [] (.i .u64 2114060416)) (p:Pol) (hp:PolOk p) (o d m a fm:Bool) {t':Tr AV} {h':Hp} (hw:Wk 0 t' h' (mkT [(1,.ptr 0 0),(2,.b false),(3,.b o),(4,.b d),(5,.b m),(6,.b a),(7,.b fm)]) (mkH 0 [.cells 0 true false (qj p)])) :
  S P 0 (wq g1 g2 g3 g4 g5 g6 g7 g8) (je [.tmp 2] fun v' h'=>Frz h' v' (.b (o && d && m && a && fm && jX p))) t' h':=by
 have hcc:=hp.c
 have hl:=hp.l
 refine S.weak hw (qL ?_)
 simp only [wq,qj,qi,H0,mkT,mkH,trL,vI,simprocAttr]
 simp only [↓vS,vT,shb,shv,qb,qc,cellsOf,wr,qa,simprocAttr]
 refine xt ?_
 cases o
 ·simp only [↓vS,vT,shb,shv,qb,qc,cellsOf,wr,qa,simprocAttr]
  simp [vZ]
 cases d
 ·simp only [↓vS,vT,shb,shv,qb,qc,cellsOf,wr,qa,simprocAttr]
  simp [vZ]
 cases m
 ·simp only [↓vS,vT,shb,shv,qb,qc,cellsOf,wr,qa,simprocAttr]
  simp [vZ]
 cases a
 ·simp only [↓vS,vT,shb,shv,qb,qc,cellsOf,wr,qa,simprocAttr]
  simp [vZ]
 cases fm
 ·simp only [↓vS,vT,shb,shv,qb,qc,cellsOf,wr,qa,simprocAttr]
  simp [vZ]
 simp only [↓vS,vT,shb,shv,qb,qc,cellsOf,wr,qa,simprocAttr]
 refine (h7 p.filter (by omega)).pc ?_
 cases hF:xK p.filter
 ·simp only [↓vS,vT,shb,shv,qb,qc,cellsOf,wr,qa,simprocAttr]
  simp [vZ,jX,hF]
 simp only [↓vS,vT,shb,shv,qb,qc,cellsOf,wr,qa,simprocAttr]
 refine (h7 p.log (by omega)).pc ?_
 cases hL:xK p.log
 ·simp only [↓vS,vT,shb,shv,qb,qc,cellsOf,wr,qa,simprocAttr]
  simp [vZ,jX,hF,hL]
 simp only [↓vS,vT,shb,shv,qb,qc,cellsOf,wr,qa,simprocAttr]
 refine h8.pc ?_
 simp only [↓vS,vT,shb,shv,qb,qc,cellsOf,wr,qa,simprocAttr]
 simp [vZ,jX,hF,hL]
theorem qju {g1 g2 g3 g4 g5 g6 g7 g8:Nat} (h3:∀ (xs:List Int) (g:Nat) (is:Int → Bool),(∀ x,qg P g [.i .i64 x] (.b (is x))) → xs.length ≤ 100000 → qg P g3 [.fz xs.length (rI .i64 xs),.fn g [] []] (.b (qT is none xs)))
  (h4:∀ a,qg P g4 [.i .i64 a] (.b (decide (0 ≤ a) && decide (a < 6))))
  (h5:∀ (xs:List Int) (g:Nat) (is:Int → Bool),(∀ x,qg P g [.i .u32 x] (.b (is x))) → xs.length ≤ 100000 → qg P g5 [.fz xs.length (rI .u32 xs),.fn g [] []] (.b (qT is none xs)))
  (h6:∀ a,qg P g6 [.i .u32 a] (.b (y1 a)))
  (h7:∀ l:GList,l.calls.length ≤ 100000 → qg P g7 [.agg (zj l)] (.b (xK l)))
  (h8:qg P g8 [] (.i .u64 2114060416)) (p:Pol) (hp:PolOk p) (o d m:Bool) {t':Tr AV} {h':Hp} (hw:Wk 0 t' h' (mkT [(1,.ptr 0 0),(2,.b false),(3,.b o),(4,.b d),(5,.b m)]) (mkH 0 [.cells 0 true false (qj p)])) :
  S P 0 (jg g1 g2 g3 g4 g5 g6 g7 g8) (je [.tmp 2] fun v' h'=>Frz h' v' (.b (o && d && m && qT (fun a=>decide (0 ≤ a) && decide (a < 6)) none p.arches && qT y1 none p.fams && jX p))) t' h':=by
 have ha:=hp.a
 have hf:=hp.f
 refine S.weak hw (qL ?_)
 simp only [jg,qj,qi,H0,mkT,mkH,trL,vI,simprocAttr]
 simp only [↓vS,vT,shb,shv,qb,qc,cellsOf,wr,qa,simprocAttr]
 refine (h3 p.arches g4 _ h4 (by omega)).sc ?_
 simp only [↓vS,vT,shb,shv,qb,qc,cellsOf,wr,qa,simprocAttr]
 refine (h5 p.fams g6 _ h6 (by omega)).sc ?_
 simp only [↓vS,vT,shb,shv,qb,qc,cellsOf,wr,qa,simprocAttr]
 refine qjv h7 h8 p hp o d m _ _ (Wk.mk _ _ [0] ?_ ?_ ?_ rfl)
 ·simp [vw]
 ·simp [vw,qj,qd,qf]
 ·simp
def wn (p:Pol):Bool:=decide (p.fmode ≤ 2) && (decide (p.fmode ≠ 0) || decide (p.fams = []))
theorem qjt {g1 g2 g3 g4 g5 g6 g7 g8:Nat} (h3:∀ (xs:List Int) (g:Nat) (is:Int → Bool),(∀ x,qg P g [.i .i64 x] (.b (is x))) → xs.length ≤ 100000 → qg P g3 [.fz xs.length (rI .i64 xs),.fn g [] []] (.b (qT is none xs)))
  (h4:∀ a,qg P g4 [.i .i64 a] (.b (decide (0 ≤ a) && decide (a < 6))))
  (h5:∀ (xs:List Int) (g:Nat) (is:Int → Bool),(∀ x,qg P g [.i .u32 x] (.b (is x))) → xs.length ≤ 100000 → qg P g5 [.fz xs.length (rI .u32 xs),.fn g [] []] (.b (qT is none xs)))
  (h6:∀ a,qg P g6 [.i .u32 a] (.b (y1 a)))
  (h7:∀ l:GList,l.calls.length ≤ 100000 → qg P g7 [.agg (zj l)] (.b (xK l)))
  (h8:qg P g8 [] (.i .u64 2114060416)) (p:Pol) (hp:PolOk p) (o d:Bool) {t':Tr AV} {h':Hp} (hw:Wk 0 t' h' (mkT [(1,.ptr 0 0),(2,.b false),(3,.b o),(4,.b d)]) (mkH 0 [.cells 0 true false (qj p)])) :
  S P 0 (jf g1 g2 g3 g4 g5 g6 g7 g8) (je [.tmp 2] fun v' h'=>Frz h' v' (.b (o && d && wn p && qT (fun a=>decide (0 ≤ a) && decide (a < 6)) none p.arches && qT y1 none p.fams && jX p))) t' h':=by
 refine S.weak hw (qL ?_)
 simp only [jf,qj,qi,H0,mkT,mkH,trL,vI,simprocAttr]
 have go:∀ m,m = wn p → ∀ {t':Tr AV} {h':Hp},Wk 0 t' h' (mkT [(1,.ptr 0 0),(2,.b false),(3,.b o),(4,.b d),(5,.b m)]) (mkH 0 [.cells 0 true false (qj p)]) → S P 0 (jg g1 g2 g3 g4 g5 g6 g7 g8) (je [.tmp 2] fun v' h'=>Frz h' v' (.b (o && d && wn p && qT (fun a=>decide (0 ≤ a) && decide (a < 6)) none p.arches && qT y1 none p.fams && jX p))) t' h':=by
  rintro m rfl t' h' hw
  exact qju h3 h4 h5 h6 h7 h8 p hp o d _ hw
 by_cases m1:p.fmode ≤ 2
 ·by_cases m2:p.fmode = 0
  ·by_cases m3:p.fams = []
   ·have h0:(p.fams.length:Int) = 0:=by rw [m3]; rfl
    simp only [↓vS,vT,shb,shv,qb,qc,cellsOf,wr,qa,simprocAttr,m1,m2,h0]
    refine go true (by simp [wn,m1,m2,m3]) (Wk.mk _ _ [0] ?_ ?_ ?_ rfl)
    ·simp [vw]
    ·simp [vw,qj,qd,qf,m2]
    ·simp
   ·have h0:((p.fams.length:Int) = 0) = False:=eq_false (by have:=List.length_pos_iff.2 m3; omega)
    simp only [↓vS,vT,shb,shv,qb,qc,cellsOf,wr,qa,simprocAttr,m1,m2,h0]
    refine go false (by simp [wn,m1,m2,m3]) (Wk.mk _ _ [0] ?_ ?_ ?_ rfl)
    ·simp [vw]
    ·simp [vw,qj,qd,qf,m2]
    ·simp
  ·simp only [↓vS,vT,shb,shv,qb,qc,cellsOf,wr,qa,simprocAttr,m1,m2]
   refine go true (by simp [wn,m1,m2]) (Wk.mk _ _ [0] ?_ ?_ ?_ rfl)
   ·simp [vw]
   ·simp [vw,qj,qd,qf]
   ·simp
 ·simp only [↓vS,vT,shb,shv,qb,qc,cellsOf,wr,qa,simprocAttr,m1]
  refine go false (by simp [wn,m1]) (Wk.mk _ _ [0] ?_ ?_ ?_ rfl)
  ·simp [vw]
  ·simp [vw,qj,qd,qf]
  ·simp
def jz (n:Int):Bool:=decide (n = 2147483648) || (decide (327680 ≤ n) && decide (n ≤ 331775))
noncomputable def xA (p:Pol):Bool:=!(p.log.calls.any fun c=>decide (c.act ≠ 0)) && jz p.deny && wn p && qT (fun a=>decide (0 ≤ a) && decide (a < 6)) none p.arches && qT y1 none p.fams && jX p
theorem qnJ {g1 g2 g3 g4 g5 g6 g7 g8:Nat} (hc:qw P f (Qe g1 g2 g3 g4 g5 g6 g7 g8) = true)
  (h1:∀ (l:List GCall) (k:Nat) (p:GCall → Bool),(∀ c,qg P k [.agg (kj c)] (.b (p c))) → l.length ≤ qh → qg P g1 [.fz l.length (rC l),.fn k [] []] (.b (l.any p)))
  (h2:∀ c,qg P g2 [.agg (kj c)] (.b (decide (c.act ≠ 0))))
  (h3:∀ (xs:List Int) (g:Nat) (is:Int → Bool),(∀ x,qg P g [.i .i64 x] (.b (is x))) → xs.length ≤ 100000 → qg P g3 [.fz xs.length (rI .i64 xs),.fn g [] []] (.b (qT is none xs)))
  (h4:∀ a,qg P g4 [.i .i64 a] (.b (decide (0 ≤ a) && decide (a < 6))))
  (h5:∀ (xs:List Int) (g:Nat) (is:Int → Bool),(∀ x,qg P g [.i .u32 x] (.b (is x))) → xs.length ≤ 100000 → qg P g5 [.fz xs.length (rI .u32 xs),.fn g [] []] (.b (qT is none xs)))
  (h6:∀ a,qg P g6 [.i .u32 a] (.b (y1 a)))
  (h7:∀ l:GList,l.calls.length ≤ 100000 → qg P g7 [.agg (zj l)] (.b (xK l)))
  (h8:qg P g8 [] (.i .u64 2114060416)) (p:Pol) (hp:PolOk p):qg P f [.agg (qj p)] (.b (xA p)):=by
 have hl:=hp.l
 refine qg.mk hc rfl ?_
 have go:∀ d,d = jz p.deny → ∀ {t':Tr AV} {h':Hp},Wk 0 t' h' (mkT [(1,.ptr 0 0),(2,.b false),(3,.b (!(p.log.calls.any fun c=>decide (c.act ≠ 0)))),(4,.b d)]) (mkH 0 [.cells 0 true false (qj p)]) → S P 0 (jf g1 g2 g3 g4 g5 g6 g7 g8) (je [.tmp 2] fun v' h'=>Frz h' v' (.b (xA p))) t' h':=by
  rintro d rfl t' h' hw
  exact qjt h3 h4 h5 h6 h7 h8 p hp _ _ hw
 simp only [Qe,qj,qi,H0,mkT,mkH,trL,vI,simprocAttr]
 simp only [↓vS,vT,shb,shv,qb,qc,cellsOf,wr,qa,simprocAttr]
 refine (h1 p.log.calls g2 _ h2 (by simp only [qh]; omega)).sc ?_
 by_cases d1:p.deny = 2147483648
 ·simp only [↓vS,vT,shb,shv,qb,qc,cellsOf,wr,qa,simprocAttr,d1]
  refine go true (by simp [jz,d1]) (Wk.mk _ _ [0] ?_ ?_ ?_ rfl)
  ·simp [vw]
  ·simp [vw,qj,qd,qf,d1]
  ·simp
 by_cases d2:327680 ≤ p.deny
 ·by_cases d3:p.deny ≤ 331775
  ·simp only [↓vS,vT,shb,shv,qb,qc,cellsOf,wr,qa,simprocAttr,d1,d2,d3]
   refine go true (by simp [jz,d1,d2,d3]) (Wk.mk _ _ [0] ?_ ?_ ?_ rfl)
   ·simp [vw]
   ·simp [vw,qj,qd,qf]
   ·simp
  ·simp only [↓vS,vT,shb,shv,qb,qc,cellsOf,wr,qa,simprocAttr,d1,d2,d3]
   refine go false (by simp [jz,d1,d2,d3]) (Wk.mk _ _ [0] ?_ ?_ ?_ rfl)
   ·simp [vw]
   ·simp [vw,qj,qd,qf]
   ·simp
 ·simp only [↓vS,vT,shb,shv,qb,qc,cellsOf,wr,qa,simprocAttr,d1,d2]
  refine go false (by simp [jz,d1,d2]) (Wk.mk _ _ [0] ?_ ?_ ?_ rfl)
  ·simp [vw]
  ·simp [vw,qj,qd,qf]
  ·simp
end Go.Kc
end
section
/- What the document's May of a policy answers. Condition: the functions' texts are these. -/
namespace Go.Kc
variable {P:Program} {f:Nat}
def x7:IFn:=⟨[.tmp 0],.seq (.r [.m 0 (.c (.nils))]) (.seq (.r [.q 1 (.build [.s [],.i .u64 0] [(0,1,(.c (.s [65,70,95,85,78,73,88]))),(1,1,(.c (.i .u64 1)))]),.q 2 (.build [.s [],.i .u64 0] [(0,1,(.c (.s [65,70,95,73,78,69,84]))),(1,1,(.c (.i .u64 2)))]),.q 3 (.build [.s [],.i .u64 0] [(0,1,(.c (.s [65,70,95,73,78,69,84,54]))),(1,1,(.c (.i .u64 10)))]),.q 4 (.build [.s [],.i .u64 0] [(0,1,(.c (.s [65,70,95,78,69,84,76,73,78,75]))),(1,1,(.c (.i .u64 16)))]),.q 5 (.build [.s [],.i .u64 0] [(0,1,(.c (.s [65,70,95,80,65,67,75,69,84]))),(1,1,(.c (.i .u64 17)))]),.q 6 (.build [.s [],.i .u64 0] [(0,1,(.c (.s [65,70,95,66,76,85,69,84,79,79,84,72]))),(1,1,(.c (.i .u64 31)))]),.q 7 (.build [.s [],.i .u64 0] [(0,1,(.c (.s [65,70,95,65,76,71]))),(1,1,(.c (.i .u64 38)))]),.q 8 (.build [.s [],.i .u64 0] [(0,1,(.c (.s [65,70,95,86,83,79,67,75]))),(1,1,(.c (.i .u64 40)))]),.q 9 (.buildS 8 [.s [],.i .u64 0] [(0,2,(.t 1)),(2,2,(.t 2)),(4,2,(.t 3)),(6,2,(.t 4)),(8,2,(.t 5)),(10,2,(.t 6)),(12,2,(.t 7)),(14,2,(.t 8))]),.m 0 (.t 9)]) (.ret))⟩
theorem qlE (hc:qw P f x7 = true):qg P f [] (.fz 8 (qJ.flatMap (zp .u64))):=by
 refine qg.mk hc rfl ?_
 simp only [x7,qi,H0,mkT,mkH,trL,vI,simprocAttr]
 simp only [↓vS,vT,shb,shv,qb,qc,cellsOf,wr,qa,simprocAttr]
 refine .cut 2 rfl (Nat.le_refl _) ?_
 simp [vw,qJ,zp]
def jr:IFn:=⟨[.tmp 0],.seq (.r [.m 0 (.c (.nils))]) (.seq (.r [.q 1 (.build [.s [],.i .u64 0] [(0,1,(.c (.s [116,105,109,101]))),(1,1,(.c (.i .u64 128)))]),.q 2 (.build [.s [],.i .u64 0] [(0,1,(.c (.s [109,110,116]))),(1,1,(.c (.i .u64 131072)))]),.q 3 (.build [.s [],.i .u64 0] [(0,1,(.c (.s [99,103,114,111,117,112]))),(1,1,(.c (.i .u64 33554432)))]),.q 4 (.build [.s [],.i .u64 0] [(0,1,(.c (.s [117,116,115]))),(1,1,(.c (.i .u64 67108864)))]),.q 5 (.build [.s [],.i .u64 0] [(0,1,(.c (.s [105,112,99]))),(1,1,(.c (.i .u64 134217728)))]),.q 6 (.build [.s [],.i .u64 0] [(0,1,(.c (.s [117,115,101,114]))),(1,1,(.c (.i .u64 268435456)))]),.q 7 (.build [.s [],.i .u64 0] [(0,1,(.c (.s [112,105,100]))),(1,1,(.c (.i .u64 536870912)))]),.q 8 (.build [.s [],.i .u64 0] [(0,1,(.c (.s [110,101,116]))),(1,1,(.c (.i .u64 1073741824)))]),.q 9 (.buildS 8 [.s [],.i .u64 0] [(0,2,(.t 1)),(2,2,(.t 2)),(4,2,(.t 3)),(6,2,(.t 4)),(8,2,(.t 5)),(10,2,(.t 6)),(12,2,(.t 7)),(14,2,(.t 8))]),.m 0 (.t 9)]) (.ret))⟩
theorem qpb (hc:qw P f jr = true):qg P f [] (.fz 8 (qp.flatMap (zp .u64))):=by
 refine qg.mk hc rfl ?_
 simp only [jr,qi,H0,mkT,mkH,trL,vI,simprocAttr]
 simp only [↓vS,vT,shb,shv,qb,qc,cellsOf,wr,qa,simprocAttr]
 refine .cut 2 rfl (Nat.le_refl _) ?_
 simp [vw,qp,zp]
def wi (f_vestibuleref10_Spaces:Nat):IFn:=⟨[.tmp 0],.seq (.r [.m 0 (.c (.i .u64 0))]) (.seq (.r [.l 4 f_vestibuleref10_Spaces [],.m 1 (.t 4)]) (.seq (.r [.m 2 (.c (.i .u64 0))]) (.seq (.seq (.r [.m 3 (.k 0)]) (.blk 0 (.loop (.seq (.seq (.r [.m 5 (.t 3),.m 6 (.t 1),.q 7 (.len false (.t 6)),.q 8 (.bin .lss (.t 5) (.t 7))]) (.cond (.t 8) (.skip) (.exit 0))) (.seq (.blk 1 (.r [.m 11 (.t 2),.m 12 (.t 1),.m 13 (.t 3),.q 14 (.iAddrS 2 (.t 12) (.t 13)),.q 15 (.fAddr 1 (.t 14)),.q 16 (.load1 (.t 15)),.q 17 (.bin .add (.t 11) (.t 16)),.m 2 (.t 17)])) (.r [.m 9 (.t 3),.q 10 (.bin .add (.t 9) (.k 1)),.m 3 (.t 10)])))))) (.seq (.r [.m 18 (.t 2),.m 0 (.t 18)]) (.ret)))))⟩
theorem qp5 {g:Nat} (hc:qw P f (wi g) = true) (hg:qg P g [] (.fz 8 (qp.flatMap (zp .u64)))):qg P f [] (.i .u64 2114060416):=by
 refine qg.mk hc rfl ?_
 simp only [wi,qi,H0,mkT,mkH,trL,vI,simprocAttr]
 simp only [↓vS,vT,shb,shv,qb,qc,cellsOf,wr,qa,simprocAttr]
 refine hg.sc ?_
 simp only [↓vS,vT,shb,shv,qb,qc,cellsOf,wr,qa,simprocAttr]
 iterate 8
  refine wt ?_
  simp only [↓vS,vT,shb,shv,qb,qc,cellsOf,wr,qa,simprocAttr,qp,zp,List.flatMap_cons,List.flatMap_nil,Int.reduceLT,Int.reduceAdd,Int.reduceNeg,qz,wY,Int.reduceLE]
 refine wt ?_
 simp only [↓vS,vT,shb,shv,qb,qc,cellsOf,wr,qa,simprocAttr,Int.reduceLT,vZ,and_self]
def jT:IFn:=⟨[.tmp 4],.seq (.r [.m 4 (.c (.s []))]) (.seq (.seq (.r [.m 5 (.k 0)]) (.blk 0 (.loop (.seq (.seq (.r [.m 6 (.t 5),.m 7 (.t 0),.q 8 (.len false (.t 7)),.q 9 (.bin .lss (.t 6) (.t 8))]) (.cond (.t 9) (.skip) (.exit 0))) (.seq (.blk 1 (.seq (.r [.m 12 (.t 0),.m 13 (.t 5),.q 14 (.iAddrS 2 (.t 12) (.t 13)),.q 15 (.fAddr 1 (.t 14)),.q 16 (.load1 (.t 15)),.m 17 (.t 1),.q 18 (.bin .eql (.t 16) (.t 17))]) (.cond (.t 18) (.seq (.r [.m 19 (.t 0),.m 20 (.t 5),.q 21 (.iAddrS 2 (.t 19) (.t 20)),.q 22 (.fAddr 0 (.t 21)),.q 23 (.load1 (.t 22)),.m 4 (.t 23)]) (.ret)) (.skip)))) (.r [.m 10 (.t 5),.q 11 (.bin .add (.t 10) (.k 1)),.m 5 (.t 11)])))))) (.seq (.r [.m 4 (.c (.s []))]) (.ret)))⟩
theorem qpR (hc:qw P f jT = true) (l:List (List UInt8 × Int)) (n:Int) (hl:l.length ≤ qh):qg P f [.fz l.length (l.flatMap (zp .u64)),.i .u64 n] (.s (xo n l)):=by
 refine qg.mk hc (by simp [qK,clo]) ?_
 simp only [jT,qi,H0,mkT,mkH,trL,vI,simprocAttr]
 simp only [↓vS,vT,shb,shv,qb,qc,cellsOf,wr,qa,simprocAttr]
 refine SL.loop (α:=Nat) (fun j=>[(0,.fz l.length (l.flatMap (zp .u64))),(1,.i .u64 n),(5,.i .i64 j)]) (fun _=>[]) (fun j=>j ≤ l.length ∧ xo n l = xo n (l.drop j)) (fun j=>l.length - j) 0 [] ?_ ?_ ?_ rfl ?_ ?_
 ·simp [vw]
 ·trivial
 ·simp
 ·simp
 rintro j ⟨hj,hI⟩ G ih
 simp only [qi,H0,mkT,mkH,trL,vI,simprocAttr]
 by_cases hlt:j < l.length
 ·have hx:l[j]? = some l[j]:=List.getElem?_eq_getElem hlt
  have hw:IntKind.wrap .i64 ((j:Int) + 1) = (j:Int) + 1:=qz (by omega) (by have:=hl; simp only [qh] at this; omega)
  have g0:(l.flatMap (zp .u64))[j * 2]? = some (.s l[j].1):=by simpa [zp] using ve (f:=zp .u64) (m:=2) kz hx (i:=0) (by decide)
  have g1:(l.flatMap (zp .u64))[j * 2 + 1]? = some (.i .u64 l[j].2):=by simpa [zp] using ve (f:=zp .u64) (m:=2) kz hx (i:=1) (by decide)
  rw [List.drop_eq_getElem_cons hlt,xo] at hI
  generalize hc0:l[j] = c at hI g0 g1
  by_cases hs:c.2 = n
  ·rw [if_pos hs] at hI
   simp only [↓vS,vT,shb,shv,qb,qc,cellsOf,wr,qa,simprocAttr,hlt,g0,g1,zp,hs]
   simp [vZ,hI]
  ·rw [if_neg hs] at hI
   simp only [↓vS,vT,shb,shv,qb,qc,cellsOf,wr,qa,simprocAttr,hlt,g0,g1,zp,hw,hs]
   refine ih (j + 1) ⟨by omega,hI⟩ (by omega) _ _ (Wk.mk _ _ [] ?_ ?_ ?_ rfl)
   ·simp [vw]
   ·trivial
   ·simp
 ·simp only [↓vS,vT,shb,shv,qb,qc,cellsOf,wr,qa,simprocAttr,hlt,vZ]
  rw [List.drop_eq_nil_of_le (by omega),xo] at hI
  rw [hI]
def wD:IFn:=⟨[.tmp 4],.seq (.r [.m 4 (.c (.b false))]) (.seq (.seq (.r [.m 5 (.k 0)]) (.blk 0 (.loop (.seq (.seq (.r [.m 6 (.t 5),.m 7 (.t 0),.q 8 (.len false (.t 7)),.q 9 (.bin .lss (.t 6) (.t 8))]) (.cond (.t 9) (.skip) (.exit 0))) (.seq (.blk 1 (.seq (.r [.m 12 (.t 0),.m 13 (.t 5),.q 14 (.iAddrS 1 (.t 12) (.t 13)),.q 15 (.load1 (.t 14)),.m 16 (.t 1),.q 17 (.bin .eql (.t 15) (.t 16))]) (.cond (.t 17) (.seq (.r [.m 4 (.c (.b true))]) (.ret)) (.skip)))) (.r [.m 10 (.t 5),.q 11 (.bin .add (.t 10) (.k 1)),.m 5 (.t 11)])))))) (.seq (.r [.m 18 (.t 0),.q 19 (.len false (.t 18)),.q 20 (.bin .eql (.t 19) (.k 0)),.m 4 (.t 20)]) (.ret)))⟩
theorem qqe (hc:qw P f wD = true) (xs:List Int) (x:Int) (hl:xs.length ≤ qh):qg P f [.fz xs.length (rI .i64 xs),.i .i64 x] (.b (inA xs x)):=by
 refine qg.mk hc (by simp [qK,clo,qd]) ?_
 simp only [wD,qi,H0,mkT,mkH,trL,vI,simprocAttr]
 simp only [↓vS,vT,shb,shv,qb,qc,cellsOf,wr,qa,simprocAttr]
 refine SL.loop (α:=Nat) (fun j=>[(0,.fz xs.length (rI .i64 xs)),(1,.i .i64 x),(5,.i .i64 j)]) (fun _=>[]) (fun j=>j ≤ xs.length ∧ (x ∈ xs ↔ x ∈ xs.drop j)) (fun j=>xs.length - j) 0 [] ?_ ?_ ?_ rfl ?_ ?_
 ·simp [vw,qd]
 ·trivial
 ·simp
 ·simp
 rintro j ⟨hj,hI⟩ G ih
 simp only [qi,H0,mkT,mkH,trL,vI,simprocAttr]
 by_cases hlt:j < xs.length
 ·have hx:xs[j]? = some xs[j]:=List.getElem?_eq_getElem hlt
  have hw:IntKind.wrap .i64 ((j:Int) + 1) = (j:Int) + 1:=qz (by omega) (by have:=hl; simp only [qh] at this; omega)
  rw [List.drop_eq_getElem_cons hlt] at hI
  generalize hc0:xs[j] = c at hI hx
  by_cases hs:c = x
  ·have hm:x ∈ xs:=hI.2 (by simp [hs])
   simp only [↓vS,vT,shb,shv,qb,qc,cellsOf,wr,qa,simprocAttr,hlt,Nat.mul_one,zF,hx,Option.map_some,hs]
   simp [vZ,inA,hm]
  ·simp only [↓vS,vT,shb,shv,qb,qc,cellsOf,wr,qa,simprocAttr,hlt,Nat.mul_one,zF,hx,Option.map_some,hs,hw]
   refine ih (j + 1) ⟨by omega,?_⟩ (by omega) _ _ (Wk.mk _ _ [] ?_ ?_ ?_ rfl)
   ·rw [hI]; simp [Ne.symm hs]
   ·simp [vw,qd]
   ·trivial
   ·simp
 ·rw [List.drop_eq_nil_of_le (by omega)] at hI
  have hm:¬ x ∈ xs:=fun h=>by simpa using hI.1 h
  by_cases h0:xs.length = 0
  ·have h':((xs.length:Int) = 0) = True:=eq_true (by omega)
   have hn:xs = []:=List.eq_nil_of_length_eq_zero h0
   simp only [↓vS,vT,shb,shv,qb,qc,cellsOf,wr,qa,simprocAttr,hlt,h']
   simp [vZ,inA,hn]
  ·have h':((xs.length:Int) = 0) = False:=eq_false (by omega)
   have hn:xs ≠ []:=fun hh=>h0 (by rw [hh]; rfl)
   simp only [↓vS,vT,shb,shv,qb,qc,cellsOf,wr,qa,simprocAttr,hlt,h']
   simp [vZ,inA,hn,hm]
theorem qcc {s m:Int} (h0:0 ≤ s) (h1:s < 18446744073709551616):decide (w8 .u64 s m = s) = decide (vb .u64 s m = 0):=by
 have hs:s = ((BitVec.ofInt 64 s).toNat:Int):=by
  rw [BitVec.toNat_ofInt]; omega
 have hw:∀ x:BitVec 64,IntKind.wrap .u64 (x.toNat:Int) = x.toNat:=fun x=>wY (by omega) (by have:=x.isLt; omega)
 have e1:w8 .u64 s m = (BitVec.ofInt 64 s &&& BitVec.ofInt 64 m).toNat:=hw _
 have e2:vb .u64 s m = (BitVec.ofInt 64 s &&& ~~~ (BitVec.ofInt 64 m)).toNat:=hw _
 rw [e1,e2]
 generalize BitVec.ofInt 64 s = x at hs ⊢
 generalize BitVec.ofInt 64 m = y
 rw [hs,Bool.eq_iff_iff,decide_eq_true_eq,decide_eq_true_eq]
 have a1:(((x &&& y).toNat:Int) = x.toNat) ↔ x &&& y = x:=by rw [Int.ofNat_inj,← BitVec.toNat_inj]
 have a2:(((x &&& ~~~y).toNat:Int) = 0) ↔ x &&& ~~~y = 0:=by
  rw [← BitVec.toNat_inj]; simp
 rw [a1,a2]
 constructor
 ·intro h; rw [← h,BitVec.and_assoc,BitVec.and_not_self]; simp
 ·intro h
  have:x = (x &&& y) ||| (x &&& ~~~ y):=by
   rw [← BitVec.and_or_distrib_left,BitVec.or_not_self,BitVec.and_allOnes]
  rw [h,show (0:BitVec 64) = 0#64 from rfl,BitVec.or_zero] at this; exact this.symm
structure PolR (p:Pol):Prop where
 fams:∀ x ∈ p.fams,0 ≤ x ∧ x ≤ 4294967295
 deny:0 ≤ p.deny ∧ p.deny ≤ 4294967295
 spaces:0 ≤ p.spaces ∧ p.spaces < 18446744073709551616
 filter:Rng p.filter.calls
 log:Rng p.log.calls
noncomputable def Qt (p:Pol):Bool:=wn p && xK p.filter && xK p.log && jz p.deny && decide (vb .u64 p.spaces 2114060416 = 0)
noncomputable def qcY (p:Pol):Bool:=!(p.log.calls.any fun c=>decide (c.act ≠ 0)) && Qt p
noncomputable def qbb (p:Pol):Bool:=qT y1 none p.fams && qcY p
theorem qbT (p:Pol):xA p = (qT (fun a=>decide (0 ≤ a) && decide (a < 6)) none p.arches && qbb p):=by
 unfold xA qbb qcY Qt jX
 generalize (p.log.calls.any fun c=>decide (c.act ≠ 0)) = a
 generalize jz p.deny = b
 generalize wn p = c
 generalize qT (fun a=>decide (0 ≤ a) && decide (a < 6)) none p.arches = d
 generalize qT y1 none p.fams = e
 generalize xK p.filter = g
 generalize xK p.log = i
 generalize decide (vb .u64 p.spaces 2114060416 = 0) = j
 revert a b c d e g i j
 decide
def zC (f_vestibuleref10_Families f_vestibuleref10_Name f_vestibuleref16_May f_vestibuleref10_All:Nat):ICode:=.seq (.seq (.r [.q 121 (.fAddr 3 (.t 1)),.q 122 (.load1 (.t 121)),.q 123 (.bin .neq (.t 122) (.c (.i .u32 2147483648))),.m 124 (.t 123),.g 125 (.fAddr 3 (.t 1)) 124 true,.g 126 (.load1 (.t 125)) 124 true,.g 127 (.bin .quo (.t 126) (.c (.i .u32 65536))) 124 true,.g 128 (.bin .neq (.t 127) (.c (.i .u32 5))) 124 true,.g 129 (.mov (.t 128)) 124 true,.g 130 (.fAddr 3 (.t 1)) 129 false,.g 131 (.load1 (.t 130)) 129 false,.g 132 (.bin .rem (.t 131) (.c (.i .u32 65536))) 129 false,.g 133 (.bin .gtr (.t 132) (.c (.i .u32 4095))) 129 false,.g 134 (.pick (.t 129) (.c (.b true)) (.t 133)) 124 true,.q 135 (.pick (.t 124) (.t 134) (.c (.b false)))]) (.cond (.t 135) (.seq (.r [.m 2 (.c (.b false))]) (.ret)) (.skip))) (.seq (.reg true [.q 136 (.fAddr 8 (.t 1)),.q 137 (.load1 (.t 136)),.l 138 f_vestibuleref10_All [],.q 139 (.bin .and (.t 137) (.t 138)),.q 140 (.fAddr 8 (.t 1)),.q 141 (.load1 (.t 140)),.q 142 (.bin .eql (.t 139) (.t 141)),.m 2 (.t 142)]) (.ret))
def xh (f_vestibuleref10_Families f_vestibuleref10_Name f_vestibuleref16_May f_vestibuleref10_All:Nat):ICode:=.seq (.seq (.r [.q 95 (.fAddr 7 (.t 1)),.q 96 (.load1 (.t 95)),.q 97 (.bin .gtr (.t 96) (.c (.i .u8 2))),.m 98 (.t 97),.g 99 (.fAddr 7 (.t 1)) 98 false,.g 100 (.load1 (.t 99)) 98 false,.g 101 (.bin .eql (.t 100) (.c (.i .u8 0))) 98 false,.g 102 (.mov (.t 101)) 98 false,.g 103 (.fAddr 6 (.t 1)) 102 true,.g 104 (.load1 (.t 103)) 102 true,.g 105 (.len false (.t 104)) 102 true,.g 106 (.bin .gtr (.t 105) (.k 0)) 102 true,.g 107 (.pick (.t 102) (.t 106) (.c (.b false))) 98 false,.q 108 (.pick (.t 98) (.c (.b true)) (.t 107)),.m 109 (.t 108),.g 110 (.fAddr 1 (.t 1)) 109 false,.g 111 (.loadN 2 (.t 110)) 109 false,⟨(some 112),.callF f_vestibuleref16_May [.t 111],(some (109,false))⟩,.g 113 (.un .not (.t 112)) 109 false,.q 114 (.pick (.t 109) (.c (.b true)) (.t 113)),.m 115 (.t 114),.g 116 (.fAddr 4 (.t 1)) 115 false,.g 117 (.loadN 2 (.t 116)) 115 false,⟨(some 118),.callF f_vestibuleref16_May [.t 117],(some (115,false))⟩,.g 119 (.un .not (.t 118)) 115 false,.q 120 (.pick (.t 115) (.c (.b true)) (.t 119))]) (.cond (.t 120) (.seq (.r [.m 2 (.c (.b false))]) (.ret)) (.skip))) (.cut (zC f_vestibuleref10_Families f_vestibuleref10_Name f_vestibuleref16_May f_vestibuleref10_All))
def xg (f_vestibuleref10_Families f_vestibuleref10_Name f_vestibuleref16_May f_vestibuleref10_All:Nat):ICode:=.seq (.seq (.r [.m 5 (.k 0)]) (.blk 4 (.loop (.seq (.seq (.r [.m 79 (.t 5),.q 80 (.fAddr 4 (.t 1)),.q 81 (.fAddr 1 (.t 80)),.q 82 (.load1 (.t 81)),.q 83 (.len false (.t 82)),.q 84 (.bin .lss (.t 79) (.t 83))]) (.cond (.t 84) (.skip) (.exit 4))) (.seq (.blk 5 (.seq (.r [.q 87 (.fAddr 4 (.t 1)),.q 88 (.fAddr 1 (.t 87)),.q 89 (.load1 (.t 88)),.m 90 (.t 5),.q 91 (.iAddrS 2 (.t 89) (.t 90)),.q 92 (.fAddr 1 (.t 91)),.q 93 (.load1 (.t 92)),.q 94 (.bin .neq (.t 93) (.c (.i .u32 0)))]) (.cond (.t 94) (.seq (.r [.m 2 (.c (.b false))]) (.ret)) (.skip)))) (.r [.m 85 (.t 5),.q 86 (.bin .add (.t 85) (.k 1)),.m 5 (.t 86)])))))) (.cut (xh f_vestibuleref10_Families f_vestibuleref10_Name f_vestibuleref16_May f_vestibuleref10_All))
def xf (f_vestibuleref10_Families f_vestibuleref10_Name f_vestibuleref16_May f_vestibuleref10_All:Nat):ICode:=.seq (.seq (.r [.m 4 (.k 0)]) (.blk 2 (.loop (.seq (.seq (.r [.m 45 (.t 4),.q 46 (.fAddr 6 (.t 1)),.q 47 (.load1 (.t 46)),.q 48 (.len false (.t 47)),.q 49 (.bin .lss (.t 45) (.t 48))]) (.cond (.t 49) (.skip) (.exit 2))) (.seq (.blk 3 (.seq (.reg true [.l 52 f_vestibuleref10_Families [],.q 53 (.fAddr 6 (.t 1)),.q 54 (.load1 (.t 53)),.m 55 (.t 4),.q 56 (.iAddrS 1 (.t 54) (.t 55)),.q 57 (.load1 (.t 56)),.q 58 (.cvInt .u64 (.t 57)),.l 59 f_vestibuleref10_Name [.t 52,.t 58],.q 60 (.bin .eql (.t 59) (.c (.s []))),.m 61 (.t 60),.g 62 (.mov (.t 4)) 61 false,.g 63 (.bin .gtr (.t 62) (.k 0)) 61 false,.g 64 (.mov (.t 63)) 61 false,.g 65 (.fAddr 6 (.t 1)) 64 true,.g 66 (.load1 (.t 65)) 64 true,.g 67 (.mov (.t 4)) 64 true,.g 68 (.iAddrS 1 (.t 66) (.t 67)) 64 true,.g 69 (.load1 (.t 68)) 64 true,.g 70 (.fAddr 6 (.t 1)) 64 true,.g 71 (.load1 (.t 70)) 64 true,.g 72 (.mov (.t 4)) 64 true,.g 73 (.bin .sub (.t 72) (.k 1)) 64 true,.g 74 (.iAddrS 1 (.t 71) (.t 73)) 64 true,.g 75 (.load1 (.t 74)) 64 true,.g 76 (.bin .leq (.t 69) (.t 75)) 64 true,.g 77 (.pick (.t 64) (.t 76) (.c (.b false))) 61 false,.q 78 (.pick (.t 61) (.c (.b true)) (.t 77))]) (.cond (.t 78) (.seq (.r [.m 2 (.c (.b false))]) (.ret)) (.skip)))) (.r [.m 50 (.t 4),.q 51 (.bin .add (.t 50) (.k 1)),.m 4 (.t 51)])))))) (.cut (xg f_vestibuleref10_Families f_vestibuleref10_Name f_vestibuleref16_May f_vestibuleref10_All))
def wk (f_vestibuleref10_Families f_vestibuleref10_Name f_vestibuleref16_May f_vestibuleref10_All:Nat):IFn:=⟨[.tmp 2],.seq (.r [.q 1 (.box (.t 0)),.m 2 (.c (.b false))]) (.seq (.seq (.r [.m 3 (.k 0)]) (.blk 0 (.loop (.seq (.seq (.r [.m 6 (.t 3),.q 7 (.fAddr 0 (.t 1)),.q 8 (.load1 (.t 7)),.q 9 (.len false (.t 8)),.q 10 (.bin .lss (.t 6) (.t 9))]) (.cond (.t 10) (.skip) (.exit 0))) (.seq (.blk 1 (.seq (.reg true [.q 13 (.fAddr 0 (.t 1)),.q 14 (.load1 (.t 13)),.m 15 (.t 3),.q 16 (.iAddrS 1 (.t 14) (.t 15)),.q 17 (.load1 (.t 16)),.q 18 (.bin .lss (.t 17) (.k 0)),.m 19 (.t 18),.g 20 (.fAddr 0 (.t 1)) 19 false,.g 21 (.load1 (.t 20)) 19 false,.g 22 (.mov (.t 3)) 19 false,.g 23 (.iAddrS 1 (.t 21) (.t 22)) 19 false,.g 24 (.load1 (.t 23)) 19 false,.g 25 (.bin .gtr (.t 24) (.k 5)) 19 false,.q 26 (.pick (.t 19) (.c (.b true)) (.t 25)),.m 27 (.t 26),.g 28 (.mov (.t 3)) 27 false,.g 29 (.bin .gtr (.t 28) (.k 0)) 27 false,.g 30 (.mov (.t 29)) 27 false,.g 31 (.fAddr 0 (.t 1)) 30 true,.g 32 (.load1 (.t 31)) 30 true,.g 33 (.mov (.t 3)) 30 true,.g 34 (.iAddrS 1 (.t 32) (.t 33)) 30 true,.g 35 (.load1 (.t 34)) 30 true,.g 36 (.fAddr 0 (.t 1)) 30 true,.g 37 (.load1 (.t 36)) 30 true,.g 38 (.mov (.t 3)) 30 true,.g 39 (.bin .sub (.t 38) (.k 1)) 30 true,.g 40 (.iAddrS 1 (.t 37) (.t 39)) 30 true,.g 41 (.load1 (.t 40)) 30 true,.g 42 (.bin .leq (.t 35) (.t 41)) 30 true,.g 43 (.pick (.t 30) (.t 42) (.c (.b false))) 27 false,.q 44 (.pick (.t 27) (.c (.b true)) (.t 43))]) (.cond (.t 44) (.seq (.r [.m 2 (.c (.b false))]) (.ret)) (.skip)))) (.r [.m 11 (.t 3),.q 12 (.bin .add (.t 11) (.k 1)),.m 3 (.t 12)])))))) (.cut (xf f_vestibuleref10_Families f_vestibuleref10_Name f_vestibuleref16_May f_vestibuleref10_All)))⟩
section
variable {g1 g2 g3 g4:Nat}
set_option maxRecDepth 4000 in
theorem qg4 (h4:qg P g4 [] (.i .u64 2114060416)) (p:Pol) (hr:PolR p) {t':Tr AV} {h':Hp} (hw:Wk 0 t' h' (mkT [(1,.ptr 0 0),(2,.b false)]) (mkH 0 [.cells 0 true false (qj p)])) :
  S P 0 (zC g1 g2 g3 g4) (je [.tmp 2] fun v' h'=>Frz h' v' (.b (jz p.deny && decide (vb .u64 p.spaces 2114060416 = 0)))) t' h':=by
 refine S.weak hw (qL ?_)
 simp only [zC,qj,qi,H0,mkT,mkH,trL,vI,simprocAttr]
 have hd:=hr.deny
 have hs:=qcc (m:=2114060416) hr.spaces.1 hr.spaces.2
 have h65:(65536:Int) ≠ 0:=by decide
 have eD:jz p.deny = (decide (p.deny = 2147483648) || (decide (p.deny.tdiv 65536 = 5) && decide (p.deny.tmod 65536 ≤ 4095))):=by
  have:=QB hd.1
  unfold jz
  rw [Bool.eq_iff_iff]
  simp only [Bool.or_eq_true,Bool.and_eq_true,decide_eq_true_eq]
  omega
 by_cases d1:p.deny = 2147483648
 ·simp only [↓vS,vT,shb,shv,qb,qc,cellsOf,wr,qa,simprocAttr,d1]
  refine xt ?_
  simp only [↓vS,vT,shb,shv,qb,qc,cellsOf,wr,qa,simprocAttr]
  refine h4.pc ?_
  simp only [↓vS,vT,shb,shv,qb,qc,cellsOf,wr,qa,simprocAttr]
  simp [vZ,← hs,jz,d1]
 by_cases e2:p.deny.tdiv 65536 = 5
 ·have hwq:IntKind.wrap .u32 (p.deny.tdiv 65536) = 5:=by rw [e2]; decide
  by_cases e3:4095 < p.deny.tmod 65536
  ·have hf:jz p.deny = false:=by rw [eD]; simp [d1,e2]; omega
   simp only [↓vS,vT,shb,shv,qb,qc,cellsOf,wr,qa,simprocAttr,d1,↓jL h65,↓wT h65,hwq,e3]
   simp [vZ,hf]
  ·have hf:jz p.deny = true:=by rw [eD]; simp [d1,e2]; omega
   simp only [↓vS,vT,shb,shv,qb,qc,cellsOf,wr,qa,simprocAttr,d1,↓jL h65,↓wT h65,hwq,e3]
   refine xt ?_
   simp only [↓vS,vT,shb,shv,qb,qc,cellsOf,wr,qa,simprocAttr]
   refine h4.pc ?_
   simp only [↓vS,vT,shb,shv,qb,qc,cellsOf,wr,qa,simprocAttr]
   simp [vZ,← hs,hf]
 ·have hwq:¬ IntKind.wrap .u32 (p.deny.tdiv 65536) = 5:=by rw [qca (kB hd.1 hd.2).1 (by have:=(kB hd.1 hd.2).2; omega)]; exact e2
  have hf:jz p.deny = false:=by rw [eD]; simp [d1,e2]
  simp only [↓vS,vT,shb,shv,qb,qc,cellsOf,wr,qa,simprocAttr,d1,↓jL h65,hwq]
  simp [vZ,hf]
theorem qg3 (h3:qcl P g3) (h4:qg P g4 [] (.i .u64 2114060416)) (p:Pol) (hp:PolOk p) (hr:PolR p) {t':Tr AV} {h':Hp} (hw:Wk 0 t' h' (mkT [(1,.ptr 0 0),(2,.b false)]) (mkH 0 [.cells 0 true false (qj p)])) :
  S P 0 (xh g1 g2 g3 g4) (je [.tmp 2] fun v' h'=>Frz h' v' (.b (Qt p))) t' h':=by
 have hcc:=hp.c
 have hl:=hp.l
 refine S.weak hw (qL ?_)
 simp only [xh,qj,qi,H0,mkT,mkH,trL,vI,simprocAttr]
 have fin:∀ {t':Tr AV} {h':Hp},wn p = true → xK p.filter = true → xK p.log = true → Wk 0 t' h' (mkT [(1,.ptr 0 0),(2,.b false)]) (mkH 0 [.cells 0 true false (qj p)]) → S P 0 (zC g1 g2 g3 g4) (je [.tmp 2] fun v' h'=>Frz h' v' (.b (Qt p))) t' h':=by
  intro t' h' a b c hw
  have:=qg4 (g1:=g1) (g2:=g2) (g3:=g3) h4 p hr hw
  have e:Qt p = (jz p.deny && decide (vb .u64 p.spaces 2114060416 = 0)):=by simp [Qt,a,b,c]
  rw [e]; exact this
 by_cases m1:2 < p.fmode
 ·have hm:Qt p = false:=by simp [Qt,wn]; omega
  simp only [↓vS,vT,shb,shv,qb,qc,cellsOf,wr,qa,simprocAttr,m1]
  simp [vZ,hm]
 by_cases m2:p.fmode = 0
 ·by_cases m3:p.fams = []
  ·have h0:¬ (0:Int) < p.fams.length:=by rw [m3]; decide
   have hmk:wn p = true:=by simp [wn,m2,m3]
   simp only [↓vS,vT,shb,shv,qb,qc,cellsOf,wr,qa,simprocAttr,m1,m2,h0]
   refine (h3 p.filter (by omega) hr.filter).sc ?_
   cases hF:xK p.filter
   ·simp only [↓vS,vT,shb,shv,qb,qc,cellsOf,wr,qa,simprocAttr]
    simp [vZ,Qt,hF]
   simp only [↓vS,vT,shb,shv,qb,qc,cellsOf,wr,qa,simprocAttr]
   refine (h3 p.log (by omega) hr.log).sc ?_
   cases hL:xK p.log
   ·simp only [↓vS,vT,shb,shv,qb,qc,cellsOf,wr,qa,simprocAttr]
    simp [vZ,Qt,hL]
   simp only [↓vS,vT,shb,shv,qb,qc,cellsOf,wr,qa,simprocAttr]
   refine fin hmk hF hL (Wk.mk _ _ [0] ?_ ?_ ?_ rfl)
   ·simp [vw]
   ·simp [vw,qj,qd,qf,m2]
   ·simp
  ·have h0:(0:Int) < p.fams.length:=by have:=List.length_pos_iff.2 m3; omega
   have hm:Qt p = false:=by simp [Qt,wn,m2,m3]
   simp only [↓vS,vT,shb,shv,qb,qc,cellsOf,wr,qa,simprocAttr,m1,m2,h0]
   simp [vZ,hm]
 ·have hmk:wn p = true:=by simp [wn,m2]; omega
  simp only [↓vS,vT,shb,shv,qb,qc,cellsOf,wr,qa,simprocAttr,m1,m2]
  refine (h3 p.filter (by omega) hr.filter).sc ?_
  cases hF:xK p.filter
  ·simp only [↓vS,vT,shb,shv,qb,qc,cellsOf,wr,qa,simprocAttr]
   simp [vZ,Qt,hF]
  simp only [↓vS,vT,shb,shv,qb,qc,cellsOf,wr,qa,simprocAttr]
  refine (h3 p.log (by omega) hr.log).sc ?_
  cases hL:xK p.log
  ·simp only [↓vS,vT,shb,shv,qb,qc,cellsOf,wr,qa,simprocAttr]
   simp [vZ,Qt,hL]
  simp only [↓vS,vT,shb,shv,qb,qc,cellsOf,wr,qa,simprocAttr]
  refine fin hmk hF hL (Wk.mk _ _ [0] ?_ ?_ ?_ rfl)
  ·simp [vw]
  ·simp [vw,qj,qd,qf]
  ·simp
theorem qg2 (h3:qcl P g3) (h4:qg P g4 [] (.i .u64 2114060416)) (p:Pol) (hp:PolOk p) (hr:PolR p) {t':Tr AV} {h':Hp} (hw:Wk 0 t' h' (mkT [(1,.ptr 0 0),(2,.b false)]) (mkH 0 [.cells 0 true false (qj p)])) :
  S P 0 (xg g1 g2 g3 g4) (je [.tmp 2] fun v' h'=>Frz h' v' (.b (qcY p))) t' h':=by
 have hl:=hp.l
 refine S.weak hw (qL ?_)
 simp only [xg,qj,qi,H0,mkT,mkH,trL,vI,simprocAttr]
 simp only [↓vS,vT,shb,shv,qb,qc,cellsOf,wr,qa,simprocAttr]
 refine SL.loop (α:=Nat) (fun j=>[(1,.ptr 0 0),(2,.b false),(5,.i .i64 j)]) (fun _=>[.cells 0 true false (qj p)])
  (fun j=>j ≤ p.log.calls.length ∧ (p.log.calls.any fun c=>decide (c.act ≠ 0)) = ((p.log.calls.drop j).any fun c=>decide (c.act ≠ 0))) (fun j=>p.log.calls.length - j) 0 [0] ?_ ?_ ?_ rfl ?_ ?_
 ·simp [vw]
 ·simp [vw,qj,qd,qf]
 ·simp
 ·exact ⟨Nat.zero_le _,rfl⟩
 rintro j ⟨hj,hI⟩ G ih
 simp only [qi,H0,mkT,mkH,trL,vI,simprocAttr,qj]
 by_cases hlt:j < p.log.calls.length
 ·have hx:p.log.calls[j]? = some p.log.calls[j]:=List.getElem?_eq_getElem hlt
  have g1:(rC p.log.calls)[j * 2 + 1]? = some (.i .u32 p.log.calls[j].act):=kT hx (i:=1) (by decide)
  have hw:IntKind.wrap .i64 ((j:Int) + 1) = ((j + 1:Nat):Int):=by rw [qz (by omega) (by omega)]; omega
  rw [List.drop_eq_getElem_cons hlt,List.any_cons] at hI
  generalize hc0:p.log.calls[j] = c at hI hx g1
  by_cases h0:c.act = 0
  ·simp only [↓vS,vT,shb,shv,qb,qc,cellsOf,wr,qa,simprocAttr,hlt,g1,h0,hw]
   refine ih (j + 1) ⟨by omega,?_⟩ (by omega) _ _ (Wk.mk _ _ [0] ?_ ?_ ?_ rfl)
   ·rw [hI]; simp [h0]
   ·simp [vw]
   ·simp [vw,qj,qd,qf]
   ·simp
  ·have hm:qcY p = false:=by unfold qcY; rw [hI]; simp [h0]
   simp only [↓vS,vT,shb,shv,qb,qc,cellsOf,wr,qa,simprocAttr,hlt,g1,h0]
   simp [vZ,hm]
 ·rw [List.drop_of_length_le (by omega)] at hI
  have hm:qcY p = Qt p:=by unfold qcY; rw [hI]; simp
  simp only [↓vS,vT,shb,shv,qb,qc,cellsOf,wr,qa,simprocAttr,hlt]
  rw [hm]
  refine qg3 h3 h4 p hp hr (Wk.mk _ _ [0] ?_ ?_ ?_ rfl)
  ·simp [vw]
  ·simp [vw,qj,qd,qf]
  ·simp
theorem qg1 (h1:qg P g1 [] (.fz 8 (qJ.flatMap (zp .u64)))) (h2:∀ (l:List (List UInt8 × Int)) (n:Int),l.length ≤ qh → qg P g2 [.fz l.length (l.flatMap (zp .u64)),.i .u64 n] (.s (xo n l))) (h3:qcl P g3) (h4:qg P g4 [] (.i .u64 2114060416)) (p:Pol) (hp:PolOk p) (hr:PolR p) {t':Tr AV} {h':Hp} (hw:Wk 0 t' h' (mkT [(1,.ptr 0 0),(2,.b false)]) (mkH 0 [.cells 0 true false (qj p)])) :
  S P 0 (xf g1 g2 g3 g4) (je [.tmp 2] fun v' h'=>Frz h' v' (.b (qbb p))) t' h':=by
 have hl:=hp.f
 refine S.weak hw (qL ?_)
 simp only [xf,qj,qi,H0,mkT,mkH,trL,vI,simprocAttr]
 simp only [↓vS,vT,shb,shv,qb,qc,cellsOf,wr,qa,simprocAttr]
 refine SL.loop (α:=Nat) (fun j=>[(1,.ptr 0 0),(2,.b false),(4,.i .i64 j)]) (fun _=>[.cells 0 true false (qj p)])
  (fun j=>j ≤ p.fams.length ∧ qT y1 none p.fams = qT y1 (if j = 0 then none else p.fams[j - 1]?) (p.fams.drop j)) (fun j=>p.fams.length - j) 0 [0] ?_ ?_ ?_ rfl ?_ ?_
 ·simp [vw]
 ·simp [vw,qj,qd,qf]
 ·simp
 ·exact ⟨Nat.zero_le _,rfl⟩
 rintro j ⟨hj,hI⟩ G ih
 simp only [qi,H0,mkT,mkH,trL,vI,simprocAttr,qj]
 by_cases hlt:j < p.fams.length
 ·have hx:p.fams[j]? = some p.fams[j]:=List.getElem?_eq_getElem hlt
  have hw:IntKind.wrap .i64 ((j:Int) + 1) = ((j + 1:Nat):Int):=by rw [qz (by omega) (by omega)]; omega
  have hb:=hr.fams p.fams[j] (List.getElem_mem hlt)
  rw [List.drop_eq_getElem_cons hlt,qT] at hI
  generalize hc0:p.fams[j] = c at hI hx hb
  have hcv:IntKind.wrap .u64 c = c:=wY (by omega) (by omega)
  simp only [↓vS,vT,shb,shv,qb,qc,cellsOf,wr,qa,simprocAttr,hlt]
  refine xt ?_
  simp only [↓vS,vT,shb,shv,qb,qc,cellsOf,wr,qa,simprocAttr]
  refine h1.pc ?_
  simp only [↓vS,vT,shb,shv,qb,qc,cellsOf,wr,qa,simprocAttr,hlt,Nat.mul_one,zF,hx,Option.map_some,hcv]
  refine (h2 qJ c (by decide)).pc ?_
  cases hk:y1 c with
  | false =>
   have hn:xo c qJ = []:=by simpa [y1] using hk
   have hwf:qbb p = false:=by unfold qbb; rw [hI]; simp [hk]
   simp only [↓vS,vT,shb,shv,qb,qc,cellsOf,wr,qa,simprocAttr,hn]
   simp [vZ,hwf]
  | true =>
   have hn:(xo c qJ = []) = False:=eq_false (by simpa [y1] using hk)
   by_cases h0:j = 0
   ·subst h0
    have hn0:¬ (0:Int) < ((0:Nat):Int):=by decide
    simp only [↓vS,vT,shb,shv,qb,qc,cellsOf,wr,qa,simprocAttr,hn,hn0,hw]
    refine ih 1 ⟨by omega,?_⟩ (by omega) _ _ (Wk.mk _ _ [0] ?_ ?_ ?_ rfl)
    ·rw [hI,hk]; simp [hx]
    ·simp [vw]
     exact qz (by decide) (by decide)
    ·simp [vw,qj,qd,qf]
    ·simp
   ·have hp0:(0:Int) < (j:Int):=by omega
    have hpl:j - 1 < p.fams.length:=by omega
    have hy:p.fams[j - 1]? = some p.fams[j - 1]:=List.getElem?_eq_getElem hpl
    have hw2:IntKind.wrap .i64 ((j:Int) - 1) = ((j - 1:Nat):Int):=by rw [qz (by omega) (by omega)]; omega
    rw [if_neg h0,hy] at hI
    by_cases hlt2:c ≤ p.fams[j - 1]
    ·have hwf:qbb p = false:=by unfold qbb; rw [hI]; simp [Int.not_lt.2 hlt2]
     simp only [↓vS,vT,shb,shv,qb,qc,cellsOf,wr,qa,simprocAttr,hn,hp0,hw2,hpl,hlt,hx,hy,Nat.mul_one,zF,Option.map_some,hlt2]
     simp [vZ,hwf]
    ·simp only [↓vS,vT,shb,shv,qb,qc,cellsOf,wr,qa,simprocAttr,hn,hp0,hw2,hpl,hlt,hx,hy,Nat.mul_one,zF,Option.map_some,hlt2,hw]
     refine ih (j + 1) ⟨by omega,?_⟩ (by omega) _ _ (Wk.mk _ _ [0] ?_ ?_ ?_ rfl)
     ·rw [hI,hk]; simp [hx]; omega
     ·simp [vw]
     ·simp [vw,qj,qd,qf]
     ·simp
 ·rw [List.drop_of_length_le (by omega),qT] at hI
  have hm:qbb p = qcY p:=by unfold qbb; rw [hI]; simp
  simp only [↓vS,vT,shb,shv,qb,qc,cellsOf,wr,qa,simprocAttr,hlt]
  rw [hm]
  refine qg2 h3 h4 p hp hr (Wk.mk _ _ [0] ?_ ?_ ?_ rfl)
  ·simp [vw]
  ·simp [vw,qj,qd,qf]
  ·simp
theorem qp9 (hc:qw P f (wk g1 g2 g3 g4) = true) (h1:qg P g1 [] (.fz 8 (qJ.flatMap (zp .u64)))) (h2:∀ (l:List (List UInt8 × Int)) (n:Int),l.length ≤ qh → qg P g2 [.fz l.length (l.flatMap (zp .u64)),.i .u64 n] (.s (xo n l))) (h3:qcl P g3) (h4:qg P g4 [] (.i .u64 2114060416)) (p:Pol) (hp:PolOk p) (hr:PolR p) :
  qg P f [.agg (qj p)] (.b (xA p)):=by
 have hl:=hp.a
 refine qg.mk hc rfl ?_
 simp only [wk,qj,qi,H0,mkT,mkH,trL,vI,simprocAttr]
 simp only [↓vS,vT,shb,shv,qb,qc,cellsOf,wr,qa,simprocAttr]
 refine SL.loop (α:=Nat) (fun j=>[(1,.ptr 0 0),(2,.b false),(3,.i .i64 j)]) (fun _=>[.cells 0 true false (qj p)])
  (fun j=>j ≤ p.arches.length ∧ qT (fun a=>decide (0 ≤ a) && decide (a < 6)) none p.arches = qT (fun a=>decide (0 ≤ a) && decide (a < 6)) (if j = 0 then none else p.arches[j - 1]?) (p.arches.drop j)) (fun j=>p.arches.length - j) 0 [0] ?_ ?_ ?_ rfl ?_ ?_
 ·simp [vw]
 ·simp [vw,qj,qd,qf]
 ·simp
 ·exact ⟨Nat.zero_le _,rfl⟩
 rintro j ⟨hj,hI⟩ G ih
 simp only [qi,H0,mkT,mkH,trL,vI,simprocAttr,qj]
 by_cases hlt:j < p.arches.length
 ·have hx:p.arches[j]? = some p.arches[j]:=List.getElem?_eq_getElem hlt
  have hw:IntKind.wrap .i64 ((j:Int) + 1) = ((j + 1:Nat):Int):=by rw [qz (by omega) (by omega)]; omega
  rw [List.drop_eq_getElem_cons hlt,qT] at hI
  generalize hc0:p.arches[j] = c at hI hx
  have bad:¬ (0 ≤ c ∧ c < 6) → xA p = false:=fun h=>by
   rw [qbT,hI]
   have:(decide (0 ≤ c) && decide (c < 6)) = false:=by
    rw [Bool.eq_false_iff]; simpa using h
   simp [this]
  simp only [↓vS,vT,shb,shv,qb,qc,cellsOf,wr,qa,simprocAttr,hlt]
  refine xt ?_
  by_cases k1:c < 0
  ·simp only [↓vS,vT,shb,shv,qb,qc,cellsOf,wr,qa,simprocAttr,hlt,Nat.mul_one,zF,hx,Option.map_some,k1]
   simp [vZ,bad (by omega)]
  by_cases k2:5 < c
  ·simp only [↓vS,vT,shb,shv,qb,qc,cellsOf,wr,qa,simprocAttr,hlt,Nat.mul_one,zF,hx,Option.map_some,k1,k2]
   simp [vZ,bad (by omega)]
  have hk:(decide (0 ≤ c) && decide (c < 6)) = true:=by simp; omega
  by_cases h0:j = 0
  ·subst h0
   have hn0:¬ (0:Int) < ((0:Nat):Int):=by decide
   simp only [↓vS,vT,shb,shv,qb,qc,cellsOf,wr,qa,simprocAttr,hlt,Nat.mul_one,zF,hx,Option.map_some,k1,k2,hn0,hw]
   refine ih 1 ⟨by omega,?_⟩ (by omega) _ _ (Wk.mk _ _ [0] ?_ ?_ ?_ rfl)
   ·rw [hI,hk]; simp [hx]
   ·simp [vw]
    exact qz (by decide) (by decide)
   ·simp [vw,qj,qd,qf]
   ·simp
  ·have hp0:(0:Int) < (j:Int):=by omega
   have hpl:j - 1 < p.arches.length:=by omega
   have hy:p.arches[j - 1]? = some p.arches[j - 1]:=List.getElem?_eq_getElem hpl
   have hw2:IntKind.wrap .i64 ((j:Int) - 1) = ((j - 1:Nat):Int):=by rw [qz (by omega) (by omega)]; omega
   rw [if_neg h0,hy] at hI
   by_cases hlt2:c ≤ p.arches[j - 1]
   ·have hwf:xA p = false:=by rw [qbT,hI]; simp [Int.not_lt.2 hlt2]
    simp only [↓vS,vT,shb,shv,qb,qc,cellsOf,wr,qa,simprocAttr,k1,k2,hp0,hw2,hpl,hlt,hx,hy,Nat.mul_one,zF,Option.map_some,hlt2]
    simp [vZ,hwf]
   ·simp only [↓vS,vT,shb,shv,qb,qc,cellsOf,wr,qa,simprocAttr,k1,k2,hp0,hw2,hpl,hlt,hx,hy,Nat.mul_one,zF,Option.map_some,hlt2,hw]
    refine ih (j + 1) ⟨by omega,?_⟩ (by omega) _ _ (Wk.mk _ _ [0] ?_ ?_ ?_ rfl)
    ·rw [hI,hk]; simp [hx]; omega
    ·simp [vw]
    ·simp [vw,qj,qd,qf]
    ·simp
 ·rw [List.drop_of_length_le (by omega),qT] at hI
  have hm:xA p = qbb p:=by rw [qbT,hI]; simp
  simp only [↓vS,vT,shb,shv,qb,qc,cellsOf,wr,qa,simprocAttr,hlt]
  rw [hm]
  refine qg1 h1 h2 h3 h4 p hp hr (Wk.mk _ _ [0] ?_ ?_ ?_ rfl)
  ·simp [vw]
  ·simp [vw,qj,qd,qf]
  ·simp
end
end Go.Kc
end
section
/- Tests, rules; numbers of calls; the helpers of lower. Condition: the functions' texts are these. -/
namespace Go.Kc
variable {P:Program} {f:Nat}
structure GTest where
 arg:Int
 mask:Int
 val:Int
 act:Int
def jp (t:GTest):List AV:=[.i .i64 t.arg,.i .u64 t.mask,.i .u64 t.val,.i .u32 t.act]
theorem Q7 (t:GTest):(jp t).length = 4:=rfl
def rT (l:List GTest):List AV:=l.flatMap jp
structure GRule where
 nr:Int
 tests:List GTest
 act:Int
def xn (r:GRule):List AV:=[.i .u32 r.nr,.fz r.tests.length (rT r.tests),.i .u32 r.act]
theorem Q6 (r:GRule):(xn r).length = 3:=rfl
def rR (l:List GRule):List AV:=l.flatMap xn
structure GFil where
 arch:Int
 rules:List GRule
 dflt:Int
def xH (x:GFil):List AV:=[.i .i64 x.arch,.fz x.rules.length (rR x.rules),.i .u32 x.dflt]
section
variable {l m:List GTest} {j:Nat}
theorem j0:(rT l).length = l.length * 4:=xc Q7 l
theorem qZ:qK (rT l) = true:=ko fun _=>rfl
theorem qkM:qM (rT l) = true:=qdo fun _=>rfl
theorem qb0 {c:GTest} (h:l[j]? = some c):((rT l).drop (j * 4)).take 4 = jp c:=xz Q7 h
theorem kU:rT l ++ rT m = rT (l ++ m):=by simp [rT]
theorem qaX (h:j < l.length):j * 4 + 4 ≤ (rT l).length:=by rw [j0]; omega
end
section
variable {l m:List GRule} {j:Nat}
theorem Qy:(rR l).length = l.length * 3:=xc Q6 l
theorem qo:qK (rR l) = true:=ko fun _=>rfl
theorem qbX {c:GRule} (h:l[j]? = some c):((rR l).drop (j * 3)).take 3 = xn c:=xz Q6 h
theorem qbY {c:GRule} (h:l[j]? = some c) {i:Nat} (hi:i < 3):(rR l)[j * 3 + i]? = (xn c)[i]?:=ve Q6 h hi
theorem qhI:rR l ++ rR m = rR (l ++ m):=by simp [rR]
theorem qaW (h:j < l.length):j * 3 + 3 ≤ (rR l).length:=by rw [Qy]; omega
end
def wF (x:List UInt8 × List Int) (a:Int):Option Int :=
 if a < 0 ∨ 6 ≤ a ∨ x.2.getD a.toNat 0 < 0 then none else some (if a = 2 then orI .u32 (IntKind.wrap .u32 (x.2.getD a.toNat 0)) 1073741824 else IntKind.wrap .u32 (x.2.getD a.toNat 0))
def yH (a:Int) (s:List UInt8):Option Int:=(qH.find? (fun x=>decide (x.1 = s))).bind fun x=>wF x a
theorem kv (x:List UInt8 × List Int) (i:Nat) (hi:i < 6):wF x (i:Int) = if x.2.getD i 0 < 0 then none else some (if (i:Int) = 2 then orI .u32 (IntKind.wrap .u32 (x.2.getD i 0)) 1073741824 else IntKind.wrap .u32 (x.2.getD i 0)):=by
 unfold wF
 rw [Int.toNat_natCast]
 by_cases h:x.2.getD i 0 < 0
 ·rw [if_pos (.inr (.inr h)),if_pos h]
 ·rw [if_neg (by omega),if_neg h]
def wB:IFn:=⟨[.tmp 4,.tmp 5],.seq (.r [.q 2 (.box (.t 0)),.m 4 (.c (.i .u32 0)),.m 5 (.c (.b false))]) (.seq (.seq (.r [.m 7 (.t 1),.q 8 (.bin .lss (.t 7) (.k 0)),.m 9 (.t 8),.g 10 (.mov (.t 1)) 9 false,.g 11 (.bin .geq (.t 10) (.k 6)) 9 false,.q 12 (.pick (.t 9) (.c (.b true)) (.t 11)),.m 13 (.t 12),.g 14 (.mov (.t 1)) 13 false,.g 15 (.fAddr 1 (.t 2)) 13 false,.g 16 (.iAddrA 6 1 (.t 15) (.t 14)) 13 false,.g 17 (.load1 (.t 16)) 13 false,.g 18 (.bin .lss (.t 17) (.k 0)) 13 false,.q 19 (.pick (.t 13) (.c (.b true)) (.t 18))]) (.cond (.t 19) (.seq (.r [.m 4 (.c (.i .u32 0)),.m 5 (.c (.b false))]) (.ret)) (.skip))) (.seq (.r [.m 20 (.t 1),.q 21 (.fAddr 1 (.t 2)),.q 22 (.iAddrA 6 1 (.t 21) (.t 20)),.q 23 (.load1 (.t 22)),.q 24 (.cvInt .u32 (.t 23)),.m 6 (.t 24)]) (.seq (.seq (.r [.m 25 (.t 1),.q 26 (.bin .eql (.t 25) (.k 2))]) (.cond (.t 26) (.r [.m 27 (.t 6),.q 28 (.bin .or (.t 27) (.c (.i .u32 1073741824))),.m 6 (.t 28)]) (.skip))) (.seq (.r [.m 29 (.t 6),.m 4 (.t 29),.m 5 (.c (.b true))]) (.ret)))))⟩
theorem qpx (hc:qw P f wB = true) (x:List UInt8 × List Int) (a:Int):qg P f [.agg (xP x),.i .i64 a] (match wF x a with | some n=>.tup [.i .u32 n,.b true] | none=>.tup [.i .u32 0,.b false]):=by
 refine qg.mk hc rfl ?_
 simp only [wB,xP,qi,H0,mkT,mkH,trL,vI,simprocAttr]
 by_cases h1:a < 0
 ·simp only [↓vS,vT,shb,shv,qb,qc,cellsOf,wr,qa,simprocAttr,h1]
  simp [vZ,wF,h1]
 by_cases h2:6 ≤ a
 ·simp only [↓vS,vT,shb,shv,qb,qc,cellsOf,wr,qa,simprocAttr,h1,h2]
  simp [vZ,wF,h2]
 have h3:a = 0 ∨ a = 1 ∨ a = 2 ∨ a = 3 ∨ a = 4 ∨ a = 5:=by omega
 clear h1 h2
 rcases h3 with rfl | rfl | rfl | rfl | rfl | rfl <;>
 ·first
   | rw [show wF x 0 = _ from kv x 0 (by decide)]
   | rw [show wF x 1 = _ from kv x 1 (by decide)]
   | rw [show wF x 2 = _ from kv x 2 (by decide)]
   | rw [show wF x 3 = _ from kv x 3 (by decide)]
   | rw [show wF x 4 = _ from kv x 4 (by decide)]
   | rw [show wF x 5 = _ from kv x 5 (by decide)]
  generalize x.2.getD _ 0 = v0
  by_cases h4:v0 < 0
  ·simp (decide:=true) only [↓vS,vT,shb,shv,qb,qc,cellsOf,wr,qa,simprocAttr,h4]
   simp [vZ]
  ·simp (decide:=true) only [↓vS,vT,shb,shv,qb,qc,cellsOf,wr,qa,simprocAttr,h4]
   simp [vZ]
def vy:IFn:=⟨[.tmp 3],.seq (.r [.q 2 (.box (.t 0)),.m 3 (.c (.b false))]) (.seq (.r [.q 4 (.fAddr 0 (.t 2)),.q 5 (.load1 (.t 4)),.q 6 (.load1 (.t 1)),.q 7 (.bin .eql (.t 5) (.t 6)),.m 3 (.t 7)]) (.ret))⟩
theorem qoU (hc:qw P f vy = true) (s:List UInt8) (x:List UInt8 × List Int):qg P f [.agg (xP x),.pf [.s s] 0] (.b (decide (x.1 = s))):=by
 refine qg.mk hc (by simp [qK,clo,xP]) ?_
 simp only [vy,xP,qi,H0,mkT,mkH,trL,vI,simprocAttr]
 simp only [↓vS,vT,shb,shv,qb,qc,cellsOf,wr,qa,simprocAttr,vZ]
def k8 (f_calls_Number_1 f_calls_find f_calls_call_number:Nat):IFn:=⟨[.tmp 4,.tmp 5],.seq (.r [.q 3 (.box (.t 1)),.m 4 (.c (.i .u32 0)),.m 5 (.k 0)]) (.seq (.r [.q 11 (.mkF f_calls_Number_1 [] [.t 3]),.l 12 f_calls_find [.t 11],.m 10 (.t 12),.q 13 (.ext (.t 10) 0),.q 14 (.ext (.t 10) 1),.q 6 (.alloc [.s [],.i .i64 0,.i .i64 0,.i .i64 0,.i .i64 0,.i .i64 0,.i .i64 0]),.u (.store 7 (.t 6) (.t 13)),.m 7 (.t 14)]) (.seq (.r [.q 16 (.loadN 7 (.t 6)),.m 17 (.t 0),.l 18 f_calls_call_number [.t 16,.t 17],.m 15 (.t 18),.q 19 (.ext (.t 15) 0),.q 20 (.ext (.t 15) 1),.m 8 (.t 19),.m 9 (.t 20)]) (.seq (.seq (.r [.m 21 (.t 7),.q 22 (.un .not (.t 21)),.m 23 (.t 22),.g 24 (.mov (.t 9)) 23 false,.g 25 (.un .not (.t 24)) 23 false,.q 26 (.pick (.t 23) (.c (.b true)) (.t 25))]) (.cond (.t 26) (.seq (.r [.m 4 (.c (.i .u32 0)),.m 5 (.k 90)]) (.ret)) (.skip))) (.seq (.r [.m 27 (.t 8),.m 4 (.t 27),.m 5 (.k 0)]) (.ret)))))⟩
theorem qkI {g1 g2 g3:Nat} (hc:qw P f (k8 g1 g2 g3) = true) (h1:∀ s x,qg P g1 [.agg (xP x),.pf [.s s] 0] (.b (decide (x.1 = s))))
  (h2:∀ (p:List UInt8 × List Int → Bool) (g:Nat) (a c:List AV),qK a = true → qK c = true → (∀ x ∈ qH,qg P g (a ++ ([.agg (xP x)] ++ c)) (.b (p x))) → qg P g2 [.fn g a c] (ZJ p))
  (h3:∀ x a,qg P g3 [.agg (xP x),.i .i64 a] (match wF x a with | some n=>.tup [.i .u32 n,.b true] | none=>.tup [.i .u32 0,.b false])) (a:Int) (s:List UInt8) :
  qg P f [.i .i64 a,.s s] (match yH a s with | some n=>.tup [.i .u32 n,.i .i64 0] | none=>.tup [.i .u32 0,.i .i64 90]):=by
 refine qg.mk hc rfl ?_
 simp only [k8,qi,H0,mkT,mkH,trL,vI,simprocAttr]
 simp only [↓vS,vT,shb,shv,qb,qc,cellsOf,wr,qa,simprocAttr]
 refine (h2 (fun x=>decide (x.1 = s)) g1 [] [.pf [.s s] 0] rfl rfl (fun x _=>h1 s x)).lend (vs':=[.fn g1 [] [.pf [.s s] 0]]) ?_ ?_ ?_
 ·simp [vZ,vP,Tr.get_set]
 ·unfold ZJ; split <;> rfl
 unfold ZJ yH
 cases hf:qH.find? (fun x=>decide (x.1 = s)) with
 | none =>
  have e:=h3 ([],[0,0,0,0,0,0]) a
  simp only [↓vS,vT,shb,shv,qb,qc,cellsOf,wr,qa,simprocAttr]
  refine e.sc ?_
  cases hn:wF ([],[0,0,0,0,0,0]) a with
  | none =>
   simp only [↓vS,vT,shb,shv,qb,qc,cellsOf,wr,qa,simprocAttr]
   simp [vZ]
  | some n =>
   simp only [↓vS,vT,shb,shv,qb,qc,cellsOf,wr,qa,simprocAttr]
   simp [vZ]
 | some x =>
  simp only [xP,↓vS,vT,shb,shv,qb,qc,cellsOf,wr,qa,simprocAttr]
  refine (h3 x a).sc ?_
  cases hn:wF x a with
  | none =>
   simp only [↓vS,vT,shb,shv,qb,qc,cellsOf,wr,qa,simprocAttr]
   simp [vZ,hn]
  | some n =>
   simp only [↓vS,vT,shb,shv,qb,qc,cellsOf,wr,qa,simprocAttr]
   simp [vZ,hn]
end Go.Kc
end
section
/- The helpers of lower. Condition: the functions' texts are these. -/
namespace Go.Kc
variable {P:Program} {f:Nat}
def qW (mode:Int) (n:Nat) (al dn:Bool):Bool:=if mode = 1 then al || decide (0 < n) else if mode = 2 then dn || decide (0 < n) else false
def yC:IFn:=⟨[.tmp 8],.seq (.r [.m 8 (.c (.b false))]) (.seq (.seq (.r [.m 9 (.t 0)]) (.blk 0 (.seq (.r [.q 11 (.bin .eql (.t 9) (.c (.i .u8 1))),.m 10 (.t 11)]) (.cond (.t 10) (.seq (.r [.m 12 (.t 2),.m 13 (.t 12),.g 14 (.mov (.t 1)) 13 false,.g 15 (.bin .gtr (.t 14) (.k 0)) 13 false,.q 16 (.pick (.t 13) (.c (.b true)) (.t 15)),.m 8 (.t 16)]) (.ret)) (.seq (.r [.q 18 (.bin .eql (.t 9) (.c (.i .u8 2))),.m 17 (.t 18)]) (.cond (.t 17) (.seq (.r [.m 19 (.t 3),.m 20 (.t 19),.g 21 (.mov (.t 1)) 20 false,.g 22 (.bin .gtr (.t 21) (.k 0)) 20 false,.q 23 (.pick (.t 20) (.c (.b true)) (.t 22)),.m 8 (.t 23)]) (.ret)) (.skip))))))) (.seq (.r [.m 8 (.c (.b false))]) (.ret)))⟩
theorem ql4 (hc:qw P f yC = true) (mode:Int) (n:Nat) (al dn:Bool):qg P f [.i .u8 mode,.i .i64 n,.b al,.b dn] (.b (qW mode n al dn)):=by
 refine qg.mk hc rfl ?_
 simp only [yC,qi,H0,mkT,mkH,trL,vI,simprocAttr]
 by_cases m1:mode = 1
 ·cases al
  ·simp only [↓vS,vT,shb,shv,qb,qc,cellsOf,wr,qa,simprocAttr,m1]
   simp [vZ,qW]
  ·simp only [↓vS,vT,shb,shv,qb,qc,cellsOf,wr,qa,simprocAttr,m1]
   simp [vZ,qW]
 by_cases m2:mode = 2
 ·cases dn
  ·simp only [↓vS,vT,shb,shv,qb,qc,cellsOf,wr,qa,simprocAttr,m1,m2]
   simp [vZ,qW]
  ·simp only [↓vS,vT,shb,shv,qb,qc,cellsOf,wr,qa,simprocAttr,m1,m2]
   simp [vZ,qW]
 simp only [↓vS,vT,shb,shv,qb,qc,cellsOf,wr,qa,simprocAttr,m1,m2]
 simp [vZ,qW,m1,m2]
def kq:IFn:=⟨[.tmp 2],.seq (.r [.m 2 (.c (.i .u32 0))]) (.seq (.r [.m 3 (.c (.i .u32 0))]) (.seq (.seq (.r [.m 6 (.t 0),.q 7 (.len false (.t 6)),.m 8 (.k 0)]) (.blk 0 (.loop (.seq (.r [.q 9 (.bin .lss (.t 8) (.t 7))]) (.seq (.cond (.t 9) (.skip) (.exit 0)) (.seq (.blk 1 (.seq (.r [.q 10 (.iAddrS 1 (.t 6) (.t 8)),.q 11 (.load1 (.t 10)),.m 5 (.t 11)]) (.seq (.r [.m 12 (.t 5),.m 13 (.t 3),.q 14 (.bin .neq (.t 12) (.t 13))]) (.cond (.t 14) (.seq (.r [.m 15 (.t 5),.m 2 (.t 15)]) (.ret)) (.skip))))) (.r [.q 16 (.bin .add (.t 8) (.k 1)),.m 8 (.t 16)]))))))) (.seq (.r [.m 17 (.t 3),.m 2 (.t 17)]) (.ret))))⟩
theorem qpW (hc:qw P f kq = true) (x y:Int):qg P f [.fz 2 (rI .u32 [x,y])] (.i .u32 (if x = 0 then y else x)):=by
 refine qg.mk hc (by simp [qK,clo,qd]) ?_
 simp only [kq,rI,List.map_cons,List.map_nil,qi,H0,mkT,mkH,trL,vI,simprocAttr]
 simp only [↓vS,vT,shb,shv,qb,qc,cellsOf,wr,qa,simprocAttr]
 refine wt ?_
 by_cases h1:x = 0
 ·simp only [↓vS,vT,shb,shv,qb,qc,cellsOf,wr,qa,simprocAttr,Int.reduceLT,Int.reduceAdd,qz,Int.reduceLE,Int.reduceNeg,h1]
  refine wt ?_
  by_cases h2:y = 0
  ·simp only [↓vS,vT,shb,shv,qb,qc,cellsOf,wr,qa,simprocAttr,Int.reduceLT,Int.reduceAdd,qz,Int.reduceLE,Int.reduceNeg,h2]
   refine wt ?_
   simp only [↓vS,vT,shb,shv,qb,qc,cellsOf,wr,qa,simprocAttr,Int.reduceLT]
   simp [vZ,h1,h2]
  ·simp only [↓vS,vT,shb,shv,qb,qc,cellsOf,wr,qa,simprocAttr,Int.reduceLT,Int.reduceAdd,qz,Int.reduceLE,Int.reduceNeg,h2]
   simp [vZ,h1]
 ·simp only [↓vS,vT,shb,shv,qb,qc,cellsOf,wr,qa,simprocAttr,Int.reduceLT,Int.reduceAdd,qz,Int.reduceLE,Int.reduceNeg,h1]
  simp [vZ,h1]
def qv (arg mask act:Int) (l:List Int):List GTest:=l.map fun v=>⟨arg,mask,v,act⟩
def qA (arg act:Int) (l:List Int):List GTest:=l.map fun v=>⟨arg,v,v,act⟩
def qbD (P:Program) (f:Nat):Prop:=∀ (arg mask act:Int) (l:List Int),l.length ≤ 100000 → Own P f [.i .i64 arg,.i .u64 mask,.i .u32 act,.fz l.length (rI .u64 l)] (.own 0 l.length) [.cells 4 true true (rT (qv arg mask act l))]
def qbB (P:Program) (f:Nat):Prop:=∀ (arg act:Int) (l:List Int),l.length ≤ 100000 → Own P f [.i .i64 arg,.i .u32 act,.fz l.length (rI .u64 l)] (.own 0 l.length) [.cells 4 true true (rT (qA arg act l))]
def yD:IFn:=⟨[.tmp 8],.seq (.r [.m 8 (.c (.nils))]) (.seq (.r [.m 9 (.c (.nils))]) (.seq (.seq (.r [.m 12 (.t 3),.q 13 (.len false (.t 12)),.m 14 (.k 0)]) (.blk 0 (.loop (.seq (.r [.q 15 (.bin .lss (.t 14) (.t 13))]) (.seq (.cond (.t 15) (.skip) (.exit 0)) (.seq (.blk 1 (.seq (.r [.q 16 (.iAddrS 1 (.t 12) (.t 14)),.q 17 (.load1 (.t 16)),.m 11 (.t 17)]) (.r [.m 18 (.t 9),.m 19 (.t 0),.m 20 (.t 1),.m 21 (.t 11),.m 22 (.t 2),.q 23 (.build [.i .i64 0,.i .u64 0,.i .u64 0,.i .u32 0] [(0,1,(.t 19)),(1,1,(.t 20)),(2,1,(.t 21)),(3,1,(.t 22))]),.q 24 (.buildS 1 [.i .i64 0,.i .u64 0,.i .u64 0,.i .u32 0] [(0,4,(.t 23))]),.q 25 (.app 4 32 true (.t 18) (.t 24)),.m 9 (.t 25)]))) (.r [.q 26 (.bin .add (.t 14) (.k 1)),.m 14 (.t 26)]))))))) (.seq (.r [.m 27 (.t 9),.m 8 (.t 27)]) (.ret))))⟩
theorem qnW (hc:qw P f yD = true):qbD P f:=by
 intro arg mask act l hl
 refine Own.mk hc (by simp [qK,clo,qd]) ?_
 simp only [yD,qi,H0,mkT,mkH,trL,vI,simprocAttr]
 simp only [↓vS,vT,shb,shv,qb,qc,cellsOf,wr,qa,simprocAttr]
 refine SL.loop (α:=Nat) (fun j=>[(0,.i .i64 arg),(1,.i .u64 mask),(2,.i .u32 act),(9,.own 0 j),(12,.fz l.length (rI .u64 l)),(13,.i .i64 l.length),(14,.i .i64 j)]) (fun j=>[.cells 4 true true (rT (qv arg mask act (l.take j)))])
  (fun j=>j ≤ l.length) (fun j=>l.length - j) 0 [9] ?_ ?_ ?_ rfl ?_ ?_
 ·simp [vw,qd]
 ·simp [vw,rT,qv]
 ·simp
 ·exact Nat.zero_le _
 rintro j hj G ih
 simp only [qi,H0,mkT,mkH,trL,vI,simprocAttr]
 by_cases hlt:j < l.length
 ·have hx:l[j]? = some l[j]:=List.getElem?_eq_getElem hlt
  have hw:IntKind.wrap .i64 ((j:Int) + 1) = ((j + 1:Nat):Int):=by rw [qz (by omega) (by omega)]; omega
  have hr1:j + 1 ≤ qh:=by simp only [qh]; omega
  have hr2:(j + 1) * 32 ≤ qh:=by simp only [qh]; omega
  have hln:(rT (qv arg mask act (l.take j))).length = j * 4:=by rw [j0]; simp [qv]; omega
  have hb:j * 4 ≤ (rT (qv arg mask act (l.take j))).length:=by omega
  have htk:(rT (qv arg mask act (l.take j))).take (j * 4) = rT (qv arg mask act (l.take j)):=List.take_of_length_le (by omega)
  have hap:rT (qv arg mask act (l.take j)) ++ [AV.i .i64 arg,.i .u64 mask,.i .u64 l[j],.i .u32 act] = rT (qv arg mask act (l.take (j + 1))):=by
   rw [List.take_add_one,hx]; simp only [Option.toList_some,qv,List.map_append,List.map_cons,List.map_nil]; rw [← kU]; rfl
  simp (decide:=true) only [↓vS,vT,shb,shv,qb,qc,cellsOf,wr,qa,simprocAttr,hlt,Nat.mul_one,zF,hx,Option.map_some,hw,hr1,hr2,hln,htk,hap]
  refine ih (j + 1) hlt (by omega) _ _ (Wk.mk _ _ [2] ?_ ?_ ?_ rfl)
  ·simp [vw,qd]
  ·simp [vw,qk,qZ]
  ·simp
 ·have hj':j = l.length:=by omega
  subst hj'
  simp only [↓vS,vT,shb,shv,qb,qc,cellsOf,wr,qa,simprocAttr,hlt]
  intro _
  refine ⟨[0],?_⟩
  simp [vw,qk,qZ]
def Qd:IFn:=⟨[.tmp 6],.seq (.r [.m 6 (.c (.nils))]) (.seq (.r [.m 7 (.c (.nils))]) (.seq (.seq (.r [.m 10 (.t 2),.q 11 (.len false (.t 10)),.m 12 (.k 0)]) (.blk 0 (.loop (.seq (.r [.q 13 (.bin .lss (.t 12) (.t 11))]) (.seq (.cond (.t 13) (.skip) (.exit 0)) (.seq (.blk 1 (.seq (.r [.q 14 (.iAddrS 1 (.t 10) (.t 12)),.q 15 (.load1 (.t 14)),.m 9 (.t 15)]) (.r [.m 16 (.t 7),.m 17 (.t 0),.m 18 (.t 9),.m 19 (.t 9),.m 20 (.t 1),.q 21 (.build [.i .i64 0,.i .u64 0,.i .u64 0,.i .u32 0] [(0,1,(.t 17)),(1,1,(.t 18)),(2,1,(.t 19)),(3,1,(.t 20))]),.q 22 (.buildS 1 [.i .i64 0,.i .u64 0,.i .u64 0,.i .u32 0] [(0,4,(.t 21))]),.q 23 (.app 4 32 true (.t 16) (.t 22)),.m 7 (.t 23)]))) (.r [.q 24 (.bin .add (.t 12) (.k 1)),.m 12 (.t 24)]))))))) (.seq (.r [.m 25 (.t 7),.m 6 (.t 25)]) (.ret))))⟩
theorem qoo (hc:qw P f Qd = true):qbB P f:=by
 intro arg act l hl
 refine Own.mk hc (by simp [qK,clo,qd]) ?_
 simp only [Qd,qi,H0,mkT,mkH,trL,vI,simprocAttr]
 simp only [↓vS,vT,shb,shv,qb,qc,cellsOf,wr,qa,simprocAttr]
 refine SL.loop (α:=Nat) (fun j=>[(0,.i .i64 arg),(1,.i .u32 act),(7,.own 0 j),(10,.fz l.length (rI .u64 l)),(11,.i .i64 l.length),(12,.i .i64 j)]) (fun j=>[.cells 4 true true (rT (qA arg act (l.take j)))])
  (fun j=>j ≤ l.length) (fun j=>l.length - j) 0 [9] ?_ ?_ ?_ rfl ?_ ?_
 ·simp [vw,qd]
 ·simp [vw,rT,qA]
 ·simp
 ·exact Nat.zero_le _
 rintro j hj G ih
 simp only [qi,H0,mkT,mkH,trL,vI,simprocAttr]
 by_cases hlt:j < l.length
 ·have hx:l[j]? = some l[j]:=List.getElem?_eq_getElem hlt
  have hw:IntKind.wrap .i64 ((j:Int) + 1) = ((j + 1:Nat):Int):=by rw [qz (by omega) (by omega)]; omega
  have hr1:j + 1 ≤ qh:=by simp only [qh]; omega
  have hr2:(j + 1) * 32 ≤ qh:=by simp only [qh]; omega
  have hln:(rT (qA arg act (l.take j))).length = j * 4:=by rw [j0]; simp [qA]; omega
  have htk:(rT (qA arg act (l.take j))).take (j * 4) = rT (qA arg act (l.take j)):=List.take_of_length_le (by omega)
  have hap:rT (qA arg act (l.take j)) ++ [AV.i .i64 arg,.i .u64 l[j],.i .u64 l[j],.i .u32 act] = rT (qA arg act (l.take (j + 1))):=by
   rw [List.take_add_one,hx]; simp only [Option.toList_some,qA,List.map_append,List.map_cons,List.map_nil]; rw [← kU]; rfl
  simp (decide:=true) only [↓vS,vT,shb,shv,qb,qc,cellsOf,wr,qa,simprocAttr,hlt,Nat.mul_one,zF,hx,Option.map_some,hw,hr1,hr2,hln,htk,hap]
  refine ih (j + 1) hlt (by omega) _ _ (Wk.mk _ _ [2] ?_ ?_ ?_ rfl)
  ·simp [vw,qd]
  ·simp [vw,qk,qZ]
  ·simp
 ·have hj':j = l.length:=by omega
  subst hj'
  simp only [↓vS,vT,shb,shv,qb,qc,cellsOf,wr,qa,simprocAttr,hlt]
  intro _
  refine ⟨[0],?_⟩
  simp [vw,qk,qZ]
def zi (s:Int):List Int:=(qp.map (·.2)).filter fun n=>decide (w8 .u64 s n ≠ 0)
def yE (f_names_spaces:Nat):IFn:=⟨[.tmp 2],.seq (.r [.m 2 (.c (.nils))]) (.seq (.r [.m 3 (.c (.nils))]) (.seq (.seq (.r [.l 6 f_names_spaces [],.m 7 (.k 0)]) (.blk 0 (.loop (.seq (.r [.q 8 (.bin .lss (.t 7) (.k 8))]) (.seq (.cond (.t 8) (.skip) (.exit 0)) (.seq (.blk 1 (.seq (.r [.q 9 (.idxA 8 2 true (.t 6) (.t 7)),.q 5 (.alloc [.s [],.i .u64 0]),.u (.store 2 (.t 5) (.t 9))]) (.seq (.r [.m 10 (.t 0),.q 11 (.fAddr 1 (.t 5)),.q 12 (.load1 (.t 11)),.q 13 (.bin .and (.t 10) (.t 12)),.q 14 (.bin .neq (.t 13) (.c (.i .u64 0)))]) (.cond (.t 14) (.r [.m 15 (.t 3),.q 16 (.fAddr 1 (.t 5)),.q 17 (.load1 (.t 16)),.q 18 (.buildS 1 [.i .u64 0] [(0,1,(.t 17))]),.q 19 (.app 1 8 true (.t 15) (.t 18)),.m 3 (.t 19)]) (.skip))))) (.r [.q 20 (.bin .add (.t 7) (.k 1)),.m 7 (.t 20)]))))))) (.seq (.r [.m 21 (.t 3),.m 2 (.t 21)]) (.ret))))⟩
theorem qlJ {g:Nat} (hc:qw P f (yE g) = true) (hg:qg P g [] (.agg (qp.flatMap (zp .u64)))) (s:Int):qg P f [.i .u64 s] (.fz (zi s).length (rI .u64 (zi s))):=by
 refine qg.mk hc rfl ?_
 simp only [yE,qi,H0,mkT,mkH,trL,vI,simprocAttr]
 simp only [↓vS,vT,shb,shv,qb,qc,cellsOf,wr,qa,simprocAttr]
 refine hg.sc ?_
 simp only [↓vS,vT,shb,shv,qb,qc,cellsOf,wr,qa,simprocAttr]
 have hlen:(qp.flatMap (zp .u64)).length = 16:=by decide
 refine SL.loop (α:=Nat) (fun j=>[(0,.i .u64 s),(3,.own 0 ((((qp.take j).map (·.2)).filter fun n=>decide (w8 .u64 s n ≠ 0)).length)),(6,.agg (qp.flatMap (zp .u64))),(7,.i .i64 j)])
  (fun j=>[.cells 1 true true (rI .u64 (((qp.take j).map (·.2)).filter fun n=>decide (w8 .u64 s n ≠ 0)))])
  (fun j=>j ≤ 8) (fun j=>8 - j) 0 [9] ?_ ?_ ?_ rfl ?_ ?_
 ·simp [vw,qp,zp]
 ·simp [vw,rI]
 ·simp
 ·exact Nat.zero_le _
 rintro j hj G ih
 simp only [qi,H0,mkT,mkH,trL,vI,simprocAttr]
 by_cases hlt:j < 8
 ·have hlt':(j:Int) < 8:=by omega
  have hjl:j < qp.length:=hlt
  have hx:qp[j]? = some qp[j]:=List.getElem?_eq_getElem hjl
  have hw:IntKind.wrap .i64 ((j:Int) + 1) = ((j + 1:Nat):Int):=by rw [qz (by omega) (by omega)]; omega
  have he:=xz (f:=zp .u64) (m:=2) kz hx
  have hb:j * 2 + 2 ≤ (qp.flatMap (zp .u64)).length:=by omega
  generalize hA:((qp.take j).map (·.2)).filter (fun n=>decide (w8 .u64 s n ≠ 0)) = A
  have hA1:((qp.take (j + 1)).map (·.2)).filter (fun n=>decide (w8 .u64 s n ≠ 0)) = A ++ (if w8 .u64 s qp[j].2 = 0 then [] else [qp[j].2]):=by
   rw [List.take_add_one,hx,List.map_append,List.filter_append,hA]
   by_cases h:w8 .u64 s qp[j].2 = 0 <;> simp [h]
  have hAl:A.length ≤ j:=by
   rw [← hA]; refine Nat.le_trans (List.length_filter_le _ _) ?_; simp; omega
  generalize hc0:qp[j] = c at hx he hA1
  generalize hT:qp.flatMap (zp .u64) = T at he hb hlen
  have hTc:qK T = true:=by rw [← hT]; rfl
  have hr1:A.length + 1 ≤ qh:=by simp only [qh]; omega
  have hr2:(A.length + 1) * 8 ≤ qh:=by simp only [qh]; omega
  by_cases h0:w8 .u64 s c.2 = 0
  ·rw [if_pos h0,List.append_nil] at hA1
   simp only [↓vS,vT,shb,shv,qb,qc,cellsOf,wr,qa,simprocAttr,hlt',hlt,he,hb,zp,h0,hw]
   refine ih (j + 1) hlt (by omega) _ _ (Wk.mk _ _ [0] ?_ ?_ ?_ rfl)
   ·rw [hA1,hT]; simp [vw,qk,hTc]
   ·rw [hA1]; simp [vw,qk,qd]
   ·simp
  ·rw [if_neg h0] at hA1
   have hap:rI .u64 A ++ [AV.i .u64 c.2] = rI .u64 (A ++ [c.2]):=by rw [← qdF]; rfl
   simp (decide:=true) only [↓vS,vT,shb,shv,qb,qc,cellsOf,wr,qa,simprocAttr,hlt',hlt,he,hb,zp,h0,hw,hr1,hr2,qbW,Nat.mul_one,hap]
   refine ih (j + 1) hlt (by omega) _ _ (Wk.mk _ _ [3] ?_ ?_ ?_ rfl)
   ·rw [hA1,hT]; simp [vw,qk,hTc]
   ·rw [hA1]; simp [vw,qk,qd]
   ·simp
 ·have hj':j = 8:=by omega
  subst hj'
  have hlt':¬ (((8:Nat):Int) < 8):=by decide
  simp only [↓vS,vT,shb,shv,qb,qc,cellsOf,wr,qa,simprocAttr,hlt']
  refine .own 0 _ 1 true _ _ ?_ (fun h0=>?_) (Frzs.self qd)
  ·simp [Tr.get_set,zi,qp]
  ·have h0:(zi s).length = 0:=h0
   rw [List.eq_nil_of_length_eq_zero h0]; rfl
def qY:IFn:=⟨[.tmp 2],.seq (.r [.m 2 (.c (.nils))]) (.seq (.seq (.r [.m 3 (.t 0),.q 4 (.eqN false .slice (.t 3))]) (.cond (.t 4) (.seq (.r [.m 2 (.c (.nils))]) (.ret)) (.skip))) (.seq (.r [.q 5 (.buildS 0 [.i .i64 0,.i .u64 0,.i .u64 0,.i .u32 0] []),.m 6 (.t 0),.q 7 (.app 4 32 true (.t 5) (.t 6)),.m 2 (.t 7)]) (.ret)))⟩
theorem qlq (hc:qw P f qY = true):qbC P f 4 32:=by
 intro n rows hlen hcl hok hr1 hr2
 refine Own.of_SC (by simp [qK,clo]) ?_
 cases n with
 | zero =>
  obtain rfl:rows = []:=by cases rows with | nil=>rfl | cons=>simp at hlen
  refine SC.nil0 (SC.mk hc (qL ?_)) (SC.mk hc (qL ?_))
  ·simp only [qY,qi,H0,mkT,mkH,trL,vI,simprocAttr]
   simp only [↓vS,vT,shb,shv,qb,qc,cellsOf,wr,qa,simprocAttr]
   intro _
   refine ⟨[1],?_⟩
   simp [vw]
  ·simp only [qY,qi,H0,mkT,mkH,trL,vI,simprocAttr]
   simp only [↓vS,vT,shb,shv,qb,qc,cellsOf,wr,qa,simprocAttr,if_true]
   intro _
   refine ⟨[1],?_⟩
   simp [vw]
 | succ n =>
  refine SC.mk hc (qL ?_)
  simp only [qY,qi,H0,mkT,mkH,trL,vI,simprocAttr]
  have h1:1 ≤ n + 1:=by omega
  have h2:(n + 1) * 4 ≤ rows.length:=by omega
  have h3:rows.take ((n + 1) * 4) = rows:=List.take_of_length_le (by omega)
  have h4:¬ (n + 1 ≤ 0):=by omega
  simp only [↓vS,vT,shb,shv,qb,qc,cellsOf,wr,qa,simprocAttr,h1,h2,h3,h4,hr1,hr2,hok,Nat.mul_one,Nat.zero_mul]
  intro _
  refine ⟨[1],?_⟩
  simp [vw,qk,hcl]
end Go.Kc
end
section
/- The rule method of lower's maker. Condition: the functions' texts are these. -/
namespace Go.Kc
variable {P:Program} {f:Nat}
def mkC (p:Pol) (a d:Int) (b n:Nat):List AV:=qj p ++ [.i .i64 a,.own b n,.i .u32 d]
def mkB (p:Pol) (a d:Int) (b n:Nat):Blk:=.cells 0 true false (mkC p a d b n)
def qR (a act:Int) (ts:List GTest) (ns:List (List UInt8)):List GRule:=ns.filterMap fun s=>(yH a s).map fun n=>⟨n,ts,act⟩
def wK (P:Program) (f:Nat):Prop:=∀ (p:Pol) (a d act:Int) (ts:List GTest) (ns:List (List UInt8)) (rs:List GRule),ts.length ≤ 100000 → rs.length + ns.length ≤ 100000 →
 Upd P f [.ptr 0 0,.i .u32 act,.fz ts.length (rT ts),.fz ns.length (rS ns)] [mkB p a d 1 rs.length,.cells 3 true true (rR rs)] (.tup [])
  [mkB p a d 2 (rs ++ qR a act ts ns).length,.dead,.cells 3 true true (rR (rs ++ qR a act ts ns))]
def wO (f_calls_Number f_slices_Clone_api_Test_api_Test:Nat):IFn:=⟨[],.seq (.r [.m 12 (.t 3),.q 13 (.len false (.t 12)),.m 14 (.k 0)]) (.blk 0 (.loop (.seq (.r [.q 15 (.bin .lss (.t 14) (.t 13))]) (.seq (.cond (.t 15) (.skip) (.exit 0)) (.seq (.blk 1 (.seq (.r [.q 16 (.iAddrS 1 (.t 12) (.t 14)),.q 17 (.load1 (.t 16)),.m 9 (.t 17)]) (.seq (.r [.m 19 (.t 0),.q 20 (.nilChk (.t 19)),.q 21 (.fAddr 13 (.t 20)),.q 22 (.fAddr 0 (.t 21)),.q 23 (.load1 (.t 22)),.m 24 (.t 9),.l 25 f_calls_Number [.t 23,.t 24],.m 18 (.t 25),.q 26 (.ext (.t 18) 0),.q 27 (.ext (.t 18) 1),.m 10 (.t 26),.m 11 (.t 27)]) (.seq (.r [.m 28 (.t 11),.q 29 (.bin .eql (.t 28) (.k 0))]) (.cond (.t 29) (.reg true [.m 30 (.t 0),.m 31 (.t 0),.q 32 (.nilChk (.t 31)),.q 33 (.fAddr 13 (.t 32)),.q 34 (.fAddr 1 (.t 33)),.q 35 (.load1 (.t 34)),.m 36 (.t 10),.m 37 (.t 2),.l 38 f_slices_Clone_api_Test_api_Test [.t 37],.m 39 (.t 1),.q 40 (.build [.i .u32 0,.nils,.i .u32 0] [(0,1,(.t 36)),(1,1,(.t 38)),(2,1,(.t 39))]),.q 41 (.buildS 1 [.i .u32 0,.nils,.i .u32 0] [(0,3,(.t 40))]),.q 42 (.app 3 40 true (.t 35) (.t 41)),.q 43 (.nilChk (.t 30)),.q 44 (.fAddr 13 (.t 43)),.q 45 (.fAddr 1 (.t 44)),.u (.store 1 (.t 45) (.t 42))]) (.skip)))))) (.r [.q 46 (.bin .add (.t 14) (.k 1)),.m 14 (.t 46)]))))))⟩
theorem qo7 {g1 g2:Nat} (hc:qw P f (wO g1 g2) = true)
  (h1:∀ (a:Int) (s:List UInt8),qg P g1 [.i .i64 a,.s s] (match yH a s with | some n=>.tup [.i .u32 n,.i .i64 0] | none=>.tup [.i .u32 0,.i .i64 90])) (h2:qbC P g2 4 32):wK P f:=by
 intro p a d act ts ns rs hts hrs
 refine Upd.mkd hc (by simp [z6,bnd,mkB]) (by simp) ?_
 simp only [wO,mkB,mkC,qj,qi,H0,mkT,mkH,trL,vI,simprocAttr,List.cons_append,List.nil_append]
 simp only [↓vS,vT,shb,shv,qb,qc,cellsOf,wr,qa,simprocAttr]
 refine SL.loopd (α:=Nat) (fun j=>[(0,.ptr 0 0),(1,.i .u32 act),(2,.fz ts.length (rT ts)),(12,.fz ns.length (rS ns)),(13,.i .i64 ns.length),(14,.i .i64 j)])
  (fun j=>[mkB p a d 2 (rs ++ qR a act ts (ns.take j)).length,.dead,.cells 3 true true (rR (rs ++ qR a act ts (ns.take j)))])
  (fun j=>j ≤ ns.length) (fun j=>ns.length - j) 0 [0,1,1] ?_ ?_ ?_ rfl (by simp) ?_ ?_ ?_
 ·simp [vw,qZ,qbZ]
 ·simp [vw,mkB,mkC,qj,qR,qk,qo,qf,qd]
 ·simp [zz,mkB]
 ·intro b hb; have:b = 0 ∨ b = 1:=by omega
  rcases this with rfl | rfl <;> simp [yN,rl]
 ·exact Nat.zero_le _
 rintro j hj G ih
 simp only [qi,H0,mkT,mkH,trL,vI,simprocAttr,mkB,mkC,qj,List.cons_append,List.nil_append]
 by_cases hlt:j < ns.length
 ·have hx:ns[j]? = some ns[j]:=List.getElem?_eq_getElem hlt
  have hg:(rS ns)[j]? = some (.s ns[j]):=by rw [qmW,hx]; rfl
  have hw:IntKind.wrap .i64 ((j:Int) + 1) = ((j + 1:Nat):Int):=by rw [qz (by omega) (by omega)]; omega
  have hnx:qR a act ts (ns.take (j + 1)) = qR a act ts (ns.take j) ++ ((yH a ns[j]).map fun n=>⟨n,ts,act⟩).toList:=by
   rw [List.take_add_one,hx]
   unfold qR
   rw [List.filterMap_append]
   cases hq:yH a ns[j] <;> simp [hq]
  have hl1:(qR a act ts (ns.take j)).length ≤ j:=by
   unfold qR; refine Nat.le_trans (List.length_filterMap_le _ _) ?_; simp; omega
  generalize hA:rs ++ qR a act ts (ns.take j) = A
  have hAl:A.length ≤ rs.length + j:=by rw [← hA]; simp; omega
  have hA1:rs ++ qR a act ts (ns.take (j + 1)) = A ++ ((yH a ns[j]).map fun n=>⟨n,ts,act⟩).toList:=by rw [hnx,← List.append_assoc,hA]
  generalize hs0:ns[j] = s at hg hA1
  simp only [↓vS,vT,shb,shv,qb,qc,cellsOf,wr,qa,simprocAttr,hlt,Nat.mul_one,hg]
  refine (h1 a s).sc ?_
  cases hn:yH a s with
  | none =>
   rw [hn] at hA1
   simp only [Option.map_none,Option.toList_none,List.append_nil] at hA1
   simp (decide:=true) only [↓vS,vT,shb,shv,qb,qc,cellsOf,wr,qa,simprocAttr,hw]
   refine ih (j + 1) hlt (by omega) _ _ (Wk.mkd _ _ [0,1,2] ?_ ?_ ?_ rfl (by simp) ?_)
   ·simp [vw,qZ,qbZ]
   ·rw [hA1]; simp [vw,mkB,mkC,qj,qk,qo,qf,qd]
   ·simp [zz,mkB]
   ·intro b hb; have:b = 0 ∨ b = 1:=by omega
    rcases this with rfl | rfl <;> simp [yN,rl]
  | some n =>
   rw [hn] at hA1
   simp only [Option.map_some,Option.toList_some] at hA1
   have hr1:A.length + 1 ≤ qh:=by simp only [qh]; omega
   have hr2:(A.length + 1) * 40 ≤ qh:=by simp only [qh]; omega
   simp (decide:=true) only [↓vS,vT,shb,shv,qb,qc,cellsOf,wr,qa,simprocAttr,hw]
   refine xt ?_
   simp only [↓vS,vT,shb,shv,qb,qc,cellsOf,wr,qa,simprocAttr]
   refine (h2.pure j0 qZ qkM (by simp only [qh]; omega) (by simp only [qh]; omega)).pc ?_
   have hap:rR A ++ [AV.i .u32 n,.fz ts.length (rT ts),.i .u32 act] = rR (A ++ [⟨n,ts,act⟩]):=by rw [← qhI]; rfl
   have htk:(rR A).take (A.length * 3) = rR A:=List.take_of_length_le (by rw [Qy]; omega)
   simp (decide:=true) only [↓vS,vT,shb,shv,qb,qc,cellsOf,wr,qa,simprocAttr,hr1,hr2,Qy,htk,hap]
   refine ih (j + 1) hlt (by omega) _ _ (Wk.mkd _ _ [0,1,4] ?_ ?_ ?_ rfl (by simp) ?_)
   ·simp [vw,qZ,qbZ]
    exact qz (by omega) (by omega)
   ·rw [hA1]; simp [vw,mkB,mkC,qj,qk,qo,qf,qd]
   ·simp [zz,mkB]
   ·intro b hb; have:b = 0 ∨ b = 1:=by omega
    rcases this with rfl | rfl <;> simp [yN,rl]
 ·have hj':j = ns.length:=by omega
  subst hj'
  simp only [↓vS,vT,shb,shv,qb,qc,cellsOf,wr,qa,simprocAttr,hlt]
  intro _
  rw [List.take_length]
  refine ⟨[0,1,2],?_⟩
  simp [vw,mkB,mkC,qj,qk,qo,qf,qd,zz,rl]
  intro b hb
  have:b = 0 ∨ b = 1:=by omega
  rcases this with rfl | rfl <;> simp
end Go.Kc
end
section
/- The filter and log methods of lower's maker. Condition: the functions' texts are these. -/
namespace Go.Kc
variable {P:Program} {f:Nat}
def zm (P:Program) (f:Nat) (F:Pol → Int → Bool × List GRule × Int):Prop:=∀ (p:Pol) (a:Int),PolOk p → PolR p →
 Upd P f [.ptr 0 0] [mkB p a 2147418112 1 0,.cells 3 true true (rR [])] (.b (F p a).1) [mkB p a (F p a).2.2 2 (F p a).2.1.length,.dead,.cells 3 true true (rR (F p a).2.1)]
def QL (a own:Int) (l:List GCall):List GRule:=l.flatMap fun c=>qR a (if c.act = 0 then own else c.act) [] [c.name]
def qay (p:Pol) (a:Int):Bool × List GRule × Int:=(qW p.filter.mode p.filter.calls.length true false,QL a (if p.filter.mode = 1 then 2147418112 else p.deny) p.filter.calls,if p.filter.mode = 1 then p.deny else 2147418112)
theorem jh (a act:Int) (ts:List GTest) (ns:List (List UInt8)):(qR a act ts ns).length ≤ ns.length:=List.length_filterMap_le _ _
theorem qcx (a own:Int):∀ l,(QL a own l).length ≤ l.length
 | []=>Nat.le_refl _
 | c :: l=>by
  have h1:=qcx a own l
  have h2:=jh a (if c.act = 0 then own else c.act) [] [c.name]
  simp only [QL,List.flatMap_cons,List.length_append,List.length_cons,List.length_nil] at h1 h2 ⊢
  omega
theorem qeS {a own:Int} {l:List GCall} {j:Nat} {c:GCall} (h:l[j]? = some c):QL a own (l.take (j + 1)) = QL a own (l.take j) ++ qR a (if c.act = 0 then own else c.act) [] [c.name]:=by
 rw [List.take_add_one,h]; simp [QL]
def xd (f_cmp_Or_uint32 f_lower_maker_rule f_lower_lists:Nat):ICode:=.seq (.seq (.r [.m 27 (.t 0),.q 28 (.nilChk (.t 27)),.q 29 (.fAddr 0 (.t 28)),.q 30 (.fAddr 1 (.t 29)),.q 31 (.fAddr 1 (.t 30)),.q 32 (.load1 (.t 31)),.q 33 (.len false (.t 32)),.m 34 (.k 0)]) (.blk 0 (.loop (.seq (.r [.q 35 (.bin .lss (.t 34) (.t 33))]) (.seq (.cond (.t 35) (.skip) (.exit 0)) (.seq (.blk 1 (.seq (.r [.q 36 (.iAddrS 2 (.t 32) (.t 34)),.q 37 (.loadN 2 (.t 36)),.q 5 (.alloc [.s [],.i .u32 0]),.u (.store 2 (.t 5) (.t 37))]) (.reg true [.m 38 (.t 0),.q 39 (.fAddr 1 (.t 5)),.q 40 (.load1 (.t 39)),.m 41 (.t 3),.q 42 (.buildS 2 [.i .u32 0] [(0,1,(.t 40)),(1,1,(.t 41))]),.l 43 f_cmp_Or_uint32 [.t 42],.q 44 (.fAddr 0 (.t 5)),.q 45 (.load1 (.t 44)),.q 46 (.buildS 1 [.s []] [(0,1,(.t 45))]),⟨(some 47),.callW f_lower_maker_rule [.t 38,.t 43,(.c (.nils)),.t 46],none⟩]))) (.r [.q 48 (.bin .add (.t 34) (.k 1)),.m 34 (.t 48)]))))))) (.seq (.reg true [.m 49 (.t 0),.q 50 (.nilChk (.t 49)),.q 51 (.fAddr 0 (.t 50)),.q 52 (.fAddr 1 (.t 51)),.q 53 (.fAddr 0 (.t 52)),.q 54 (.load1 (.t 53)),.m 55 (.t 0),.q 56 (.nilChk (.t 55)),.q 57 (.fAddr 0 (.t 56)),.q 58 (.fAddr 1 (.t 57)),.q 59 (.fAddr 1 (.t 58)),.q 60 (.load1 (.t 59)),.q 61 (.len false (.t 60)),.l 62 f_lower_lists [.t 54,.t 61,(.c (.b true)),(.c (.b false))],.m 2 (.t 62)]) (.ret))
def wg (f_cmp_Or_uint32 f_lower_maker_rule f_lower_lists:Nat):IFn:=⟨[.tmp 2],.seq (.r [.m 2 (.c (.b false))]) (.seq (.r [.m 6 (.t 0),.q 7 (.nilChk (.t 6)),.q 8 (.fAddr 0 (.t 7)),.q 9 (.fAddr 3 (.t 8)),.q 10 (.load1 (.t 9)),.m 3 (.t 10)]) (.seq (.seq (.r [.m 11 (.t 0),.q 12 (.nilChk (.t 11)),.q 13 (.fAddr 0 (.t 12)),.q 14 (.fAddr 1 (.t 13)),.q 15 (.fAddr 0 (.t 14)),.q 16 (.load1 (.t 15)),.q 17 (.bin .eql (.t 16) (.c (.i .u8 1)))]) (.cond (.t 17) (.r [.m 18 (.t 0),.m 19 (.t 0),.q 20 (.nilChk (.t 19)),.q 21 (.fAddr 0 (.t 20)),.q 22 (.fAddr 3 (.t 21)),.q 23 (.load1 (.t 22)),.q 24 (.nilChk (.t 18)),.q 25 (.fAddr 13 (.t 24)),.q 26 (.fAddr 2 (.t 25)),.u (.store 1 (.t 26) (.t 23)),.m 3 (.c (.i .u32 2147418112))]) (.skip))) (.cut (xd f_cmp_Or_uint32 f_lower_maker_rule f_lower_lists))))⟩
theorem qaR {g1 g2 g3:Nat} (h1:∀ x y,qg P g1 [.fz 2 (rI .u32 [x,y])] (.i .u32 (if x = 0 then y else x))) (h2:wK P g2) (h3:∀ mode n al dn,qg P g3 [.i .u8 mode,.i .i64 (n:Nat),.b al,.b dn] (.b (qW mode n al dn)))
  (p:Pol) (a d own:Int) (hp:PolOk p) {t':Tr AV} {h':Hp} (hw:Wk 2 t' h' (mkT [(0,.ptr 0 0),(3,.i .u32 own)]) (mkH 0 [mkB p a d 1 0,.cells 3 true true (rR [])])) :
  S P 2 (xd g1 g2 g3) (je [.tmp 2] (qdf 2 (.b (qW p.filter.mode p.filter.calls.length true false)) [mkB p a d 2 (QL a own p.filter.calls).length,.dead,.cells 3 true true (rR (QL a own p.filter.calls))])) t' h':=by
 have hl:=hp.c
 refine S.weak hw (qL ?_)
 simp only [xd,mkB,mkC,qj,List.cons_append,List.nil_append,qi,H0,mkT,mkH,trL,vI,simprocAttr]
 simp only [↓vS,vT,shb,shv,qb,qc,cellsOf,wr,qa,simprocAttr]
 refine SL.loopd (α:=Nat) (fun j=>[(0,.ptr 0 0),(3,.i .u32 own),(32,.fz p.filter.calls.length (rC p.filter.calls)),(33,.i .i64 p.filter.calls.length),(34,.i .i64 j)])
  (fun j=>[mkB p a d 2 (QL a own (p.filter.calls.take j)).length,.dead,.cells 3 true true (rR (QL a own (p.filter.calls.take j)))])
  (fun j=>j ≤ p.filter.calls.length) (fun j=>p.filter.calls.length - j) 0 [0,1,1] ?_ ?_ ?_ rfl (by simp) ?_ ?_ ?_
 ·simp [vw,qf]
 ·simp [vw,mkB,mkC,qj,QL,qk,qo,qf,qd]
 ·simp [zz,mkB]
 ·intro b hb; have:b = 0 ∨ b = 1:=by omega
  rcases this with rfl | rfl <;> simp [yN,rl]
 ·exact Nat.zero_le _
 rintro j hj G ih
 simp only [qi,H0,mkT,mkH,trL,vI,simprocAttr,mkB,mkC,qj,List.cons_append,List.nil_append]
 by_cases hlt:j < p.filter.calls.length
 ·have hx:p.filter.calls[j]? = some p.filter.calls[j]:=List.getElem?_eq_getElem hlt
  have he:=qbV hx
  have hb:=qaV hlt
  have hw:IntKind.wrap .i64 ((j:Int) + 1) = ((j + 1:Nat):Int):=by rw [qz (by omega) (by omega)]; omega
  have hA1:=qeS (a:=a) (own:=own) hx
  have hl1:=qcx a own (p.filter.calls.take j)
  rw [List.length_take,Nat.min_eq_left (by omega)] at hl1
  generalize hA:QL a own (p.filter.calls.take j) = A at hA1 hl1
  generalize hc0:p.filter.calls[j] = c at he hA1
  simp only [↓vS,vT,shb,shv,qb,qc,cellsOf,wr,qa,simprocAttr,hlt,hb,he,kj]
  refine xt ?_
  simp only [↓vS,vT,shb,shv,qb,qc,cellsOf,wr,qa,simprocAttr]
  refine (h1 c.act own).lendp (vs':=[.fz 2 (rI .u32 [c.act,own])]) ?_ rfl ?_
  ·refine .cons _ _ _ _ (.cut 1 rfl (Nat.le_refl _) ?_) .nil
   simp [vw,rI]
  simp only [↓vS,vT,shb,shv,qb,qc,cellsOf,wr,qa,simprocAttr]
  refine PC.give (vs':=[.ptr 0 0,.i .u32 (if c.act = 0 then own else c.act),.fz 0 (rT []),.fz 1 (rS [c.name])]) [(5,.cells 0 true false [.s c.name])] ?_ ?_ ?_
  ·intro q hq; simp at hq; subst hq; simp [Tr.get_set]
  ·refine .keep _ _ _ (.keep _ _ _ (.fz _ _ _ _ .nilz (.fz _ _ _ _ (.cut 1 rfl (Nat.le_refl _) ?_) .nil)))
   simp [vw,trP,rS]
  simp only [zh,zn,zK]
  refine (h2 p a d (if c.act = 0 then own else c.act) [] [c.name] A (by simp) (by simp; omega)).pc (vs:=[.ptr 0 0,.i .u32 (if c.act = 0 then own else c.act),.fz 0 (rT []),.fz 1 (rS [c.name])]) [0,2] (Lent.of (by decide) ?_) ?_
  ·simp [vL,shb,shv,qb,z6,bnd,zJ,rnv,gAt,vw,mkB,mkC,qj,qD qo,qm qo,qD qf,qm qf,qD qd,qm qd]
  rw [← hA1]
  simp only [vK,xm,rnb,zJ,rnv,gAt,simprocAttr,mkB,mkC,qj,List.cons_append,List.nil_append,qm qo,qm qf,qm qd]
  simp only [↓vS,vT,shb,shv,qb,qc,cellsOf,wr,qa,simprocAttr,hw]
  refine ih (j + 1) hlt (by omega) _ _ (Wk.mkd _ _ [0,1,6] ?_ ?_ ?_ rfl (by simp) ?_)
  ·simp [vw,qf]
  ·simp [vw,mkB,mkC,qj,qk,qo,qf,qd]
  ·simp [zz,mkB]
  ·intro b hb; have:b = 0 ∨ b = 1:=by omega
   rcases this with rfl | rfl <;> simp [yN,rl]
 ·have hj':j = p.filter.calls.length:=by omega
  subst hj'
  simp only [↓vS,vT,shb,shv,qb,qc,cellsOf,wr,qa,simprocAttr,hlt]
  refine xt ?_
  simp only [↓vS,vT,shb,shv,qb,qc,cellsOf,wr,qa,simprocAttr]
  refine (h3 p.filter.mode p.filter.calls.length true false).pc ?_
  simp only [↓vS,vT,shb,shv,qb,qc,cellsOf,wr,qa,simprocAttr]
  rw [List.take_length]
  intro _
  refine ⟨[0,1,2],?_⟩
  simp [vw,mkB,mkC,qj,qk,qo,qf,qd,zz,rl]
  intro b hb
  have:b = 0 ∨ b = 1:=by omega
  rcases this with rfl | rfl <;> simp
theorem qkG {g1 g2 g3:Nat} (hc:qw P f (wg g1 g2 g3) = true) (h1:∀ x y,qg P g1 [.fz 2 (rI .u32 [x,y])] (.i .u32 (if x = 0 then y else x))) (h2:wK P g2) (h3:∀ mode n al dn,qg P g3 [.i .u8 mode,.i .i64 (n:Nat),.b al,.b dn] (.b (qW mode n al dn))):zm P f qay:=by
 intro p a hp hR
 refine Upd.mkd hc (by simp [z6,bnd,mkB]) (by simp) ?_
 simp only [wg,mkB,mkC,qj,qi,H0,mkT,mkH,trL,vI,simprocAttr,List.cons_append,List.nil_append]
 by_cases m:p.filter.mode = 1
 ·simp only [↓vS,vT,shb,shv,qb,qc,cellsOf,wr,qa,simprocAttr,m]
  have e:qay p a = (qW p.filter.mode p.filter.calls.length true false,QL a 2147418112 p.filter.calls,p.deny):=by simp [qay,m]
  rw [e]
  refine qaR h1 h2 h3 p a p.deny 2147418112 hp (Wk.mkd _ _ [0,1] ?_ ?_ ?_ rfl (by simp) ?_)
  ·simp [vw]
  ·simp [vw,mkB,mkC,qj,qk,qo,qf,qd,m,rR]
  ·simp [zz,mkB]
  ·intro b hb; have:b = 0 ∨ b = 1:=by omega
   rcases this with rfl | rfl <;> simp [yN,rl]
 ·simp only [↓vS,vT,shb,shv,qb,qc,cellsOf,wr,qa,simprocAttr,m]
  have e:qay p a = (qW p.filter.mode p.filter.calls.length true false,QL a p.deny p.filter.calls,2147418112):=by simp [qay,m]
  rw [e]
  refine qaR h1 h2 h3 p a 2147418112 p.deny hp (Wk.mkd _ _ [0,1] ?_ ?_ ?_ rfl (by simp) ?_)
  ·simp [vw]
  ·simp [vw,mkB,mkC,qj,qk,qo,qf,qd,rR]
  ·simp [zz,mkB]
  ·intro b hb; have:b = 0 ∨ b = 1:=by omega
   rcases this with rfl | rfl <;> simp [yN,rl]
end Go.Kc
end
section
/- The log method of lower's maker. Condition: the functions' texts are these. -/
namespace Go.Kc
variable {P:Program} {f:Nat}
def QS (a own:Int) (l:List GCall):List GRule:=l.flatMap fun c=>qR a own [] [c.name]
def qaO (p:Pol) (a:Int):Bool × List GRule × Int:=(qW p.log.mode p.log.calls.length false true,QS a (if p.log.mode = 2 then 2147418112 else 2147221504) p.log.calls,if p.log.mode = 2 then 2147221504 else 2147418112)
theorem qcS (a own:Int):∀ l,(QS a own l).length ≤ l.length
 | []=>Nat.le_refl _
 | c :: l=>by
  have h1:=qcS a own l
  have h2:=jh a own [] [c.name]
  simp only [QS,List.flatMap_cons,List.length_append,List.length_cons,List.length_nil] at h1 h2 ⊢
  omega
theorem qe5 {a own:Int} {l:List GCall} {j:Nat} {c:GCall} (h:l[j]? = some c):QS a own (l.take (j + 1)) = QS a own (l.take j) ++ qR a own [] [c.name]:=by
 rw [List.take_add_one,h]; simp [QS]
def xS (f_lower_maker_rule f_lower_lists:Nat):ICode:=.seq (.seq (.r [.m 17 (.t 0),.q 18 (.nilChk (.t 17)),.q 19 (.fAddr 0 (.t 18)),.q 20 (.fAddr 4 (.t 19)),.q 21 (.fAddr 1 (.t 20)),.q 22 (.load1 (.t 21)),.q 23 (.len false (.t 22)),.m 24 (.k 0)]) (.blk 0 (.loop (.seq (.r [.q 25 (.bin .lss (.t 24) (.t 23))]) (.seq (.cond (.t 25) (.skip) (.exit 0)) (.seq (.blk 1 (.seq (.r [.q 26 (.iAddrS 2 (.t 22) (.t 24)),.q 27 (.loadN 2 (.t 26)),.q 5 (.alloc [.s [],.i .u32 0]),.u (.store 2 (.t 5) (.t 27))]) (.r [.m 28 (.t 0),.m 29 (.t 3),.q 30 (.fAddr 0 (.t 5)),.q 31 (.load1 (.t 30)),.q 32 (.buildS 1 [.s []] [(0,1,(.t 31))]),.l 33 f_lower_maker_rule [.t 28,.t 29,(.c (.nils)),.t 32]]))) (.r [.q 34 (.bin .add (.t 24) (.k 1)),.m 24 (.t 34)]))))))) (.seq (.reg true [.m 35 (.t 0),.q 36 (.nilChk (.t 35)),.q 37 (.fAddr 0 (.t 36)),.q 38 (.fAddr 4 (.t 37)),.q 39 (.fAddr 0 (.t 38)),.q 40 (.load1 (.t 39)),.m 41 (.t 0),.q 42 (.nilChk (.t 41)),.q 43 (.fAddr 0 (.t 42)),.q 44 (.fAddr 4 (.t 43)),.q 45 (.fAddr 1 (.t 44)),.q 46 (.load1 (.t 45)),.q 47 (.len false (.t 46)),.l 48 f_lower_lists [.t 40,.t 47,(.c (.b false)),(.c (.b true))],.m 2 (.t 48)]) (.ret))
def vh (f_lower_maker_rule f_lower_lists:Nat):IFn:=⟨[.tmp 2],.seq (.r [.m 2 (.c (.b false))]) (.seq (.r [.m 3 (.c (.i .u32 2147221504))]) (.seq (.seq (.r [.m 6 (.t 0),.q 7 (.nilChk (.t 6)),.q 8 (.fAddr 0 (.t 7)),.q 9 (.fAddr 4 (.t 8)),.q 10 (.fAddr 0 (.t 9)),.q 11 (.load1 (.t 10)),.q 12 (.bin .eql (.t 11) (.c (.i .u8 2)))]) (.cond (.t 12) (.r [.m 13 (.t 0),.q 14 (.nilChk (.t 13)),.q 15 (.fAddr 13 (.t 14)),.q 16 (.fAddr 2 (.t 15)),.u (.store 1 (.t 16) (.c (.i .u32 2147221504))),.m 3 (.c (.i .u32 2147418112))]) (.skip))) (.cut (xS f_lower_maker_rule f_lower_lists))))⟩
theorem qec {g2 g3:Nat} (h2:wK P g2) (h3:∀ mode n al dn,qg P g3 [.i .u8 mode,.i .i64 (n:Nat),.b al,.b dn] (.b (qW mode n al dn)))
  (p:Pol) (a d own:Int) (hp:PolOk p) {t':Tr AV} {h':Hp} (hw:Wk 2 t' h' (mkT [(0,.ptr 0 0),(3,.i .u32 own)]) (mkH 0 [mkB p a d 1 0,.cells 3 true true (rR [])])) :
  S P 2 (xS g2 g3) (je [.tmp 2] (qdf 2 (.b (qW p.log.mode p.log.calls.length false true)) [mkB p a d 2 (QS a own p.log.calls).length,.dead,.cells 3 true true (rR (QS a own p.log.calls))])) t' h':=by
 have hl:=hp.l
 refine S.weak hw (qL ?_)
 simp only [xS,mkB,mkC,qj,List.cons_append,List.nil_append,qi,H0,mkT,mkH,trL,vI,simprocAttr]
 simp only [↓vS,vT,shb,shv,qb,qc,cellsOf,wr,qa,simprocAttr]
 refine SL.loopd (α:=Nat) (fun j=>[(0,.ptr 0 0),(3,.i .u32 own),(22,.fz p.log.calls.length (rC p.log.calls)),(23,.i .i64 p.log.calls.length),(24,.i .i64 j)])
  (fun j=>[mkB p a d 2 (QS a own (p.log.calls.take j)).length,.dead,.cells 3 true true (rR (QS a own (p.log.calls.take j)))])
  (fun j=>j ≤ p.log.calls.length) (fun j=>p.log.calls.length - j) 0 [0,1,1] ?_ ?_ ?_ rfl (by simp) ?_ ?_ ?_
 ·simp [vw,qf]
 ·simp [vw,mkB,mkC,qj,QS,qk,qo,qf,qd]
 ·simp [zz,mkB]
 ·intro b hb; have:b = 0 ∨ b = 1:=by omega
  rcases this with rfl | rfl <;> simp [yN,rl]
 ·exact Nat.zero_le _
 rintro j hj G ih
 simp only [qi,H0,mkT,mkH,trL,vI,simprocAttr,mkB,mkC,qj,List.cons_append,List.nil_append]
 by_cases hlt:j < p.log.calls.length
 ·have hx:p.log.calls[j]? = some p.log.calls[j]:=List.getElem?_eq_getElem hlt
  have he:=qbV hx
  have hb:=qaV hlt
  have hw:IntKind.wrap .i64 ((j:Int) + 1) = ((j + 1:Nat):Int):=by rw [qz (by omega) (by omega)]; omega
  have hA1:=qe5 (a:=a) (own:=own) hx
  have hl1:=qcS a own (p.log.calls.take j)
  rw [List.length_take,Nat.min_eq_left (by omega)] at hl1
  generalize hA:QS a own (p.log.calls.take j) = A at hA1 hl1
  generalize hc0:p.log.calls[j] = c at he hA1
  simp only [↓vS,vT,shb,shv,qb,qc,cellsOf,wr,qa,simprocAttr,hlt,hb,he,kj]
  refine SC.give (vs':=[.ptr 0 0,.i .u32 own,.fz 0 (rT []),.fz 1 (rS [c.name])]) [(4,.cells 0 true false [.s c.name])] ?_ ?_ ?_
  ·intro q hq; simp at hq; subst hq; simp [Tr.get_set]
  ·refine .keep _ _ _ (.keep _ _ _ (.fz _ _ _ _ .nilz (.fz _ _ _ _ (.cut 1 rfl (Nat.le_refl _) ?_) .nil)))
   simp [vw,trP,rS]
  simp only [zh,zn,zK]
  refine (h2 p a d own [] [c.name] A (by simp) (by simp; omega)).sc (vs:=[.ptr 0 0,.i .u32 own,.fz 0 (rT []),.fz 1 (rS [c.name])]) [0,2] (Lent.of (by decide) ?_) ?_
  ·simp [vL,shb,shv,qb,z6,bnd,zJ,rnv,gAt,vw,mkB,mkC,qj,qD qo,qm qo,qD qf,qm qf,qD qd,qm qd]
  rw [← hA1]
  simp only [vK,xm,rnb,zJ,rnv,gAt,simprocAttr,mkB,mkC,qj,List.cons_append,List.nil_append,qm qo,qm qf,qm qd]
  simp only [↓vS,vT,shb,shv,qb,qc,cellsOf,wr,qa,simprocAttr,hw]
  refine ih (j + 1) hlt (by omega) _ _ (Wk.mkd _ _ [0,1,5] ?_ ?_ ?_ rfl (by simp) ?_)
  ·simp [vw,qf]
  ·simp [vw,mkB,mkC,qj,qk,qo,qf,qd]
  ·simp [zz,mkB]
  ·intro b hb; have:b = 0 ∨ b = 1:=by omega
   rcases this with rfl | rfl <;> simp [yN,rl]
 ·have hj':j = p.log.calls.length:=by omega
  subst hj'
  simp only [↓vS,vT,shb,shv,qb,qc,cellsOf,wr,qa,simprocAttr,hlt]
  refine xt ?_
  simp only [↓vS,vT,shb,shv,qb,qc,cellsOf,wr,qa,simprocAttr]
  refine (h3 p.log.mode p.log.calls.length false true).pc ?_
  simp only [↓vS,vT,shb,shv,qb,qc,cellsOf,wr,qa,simprocAttr]
  rw [List.take_length]
  intro _
  refine ⟨[0,1,2],?_⟩
  simp [vw,mkB,mkC,qj,qk,qo,qf,qd,zz,rl]
  intro b hb
  have:b = 0 ∨ b = 1:=by omega
  rcases this with rfl | rfl <;> simp
theorem qoS {g2 g3:Nat} (hc:qw P f (vh g2 g3) = true) (h2:wK P g2) (h3:∀ mode n al dn,qg P g3 [.i .u8 mode,.i .i64 (n:Nat),.b al,.b dn] (.b (qW mode n al dn))):zm P f qaO:=by
 intro p a hp hR
 refine Upd.mkd hc (by simp [z6,bnd,mkB]) (by simp) ?_
 simp only [vh,mkB,mkC,qj,qi,H0,mkT,mkH,trL,vI,simprocAttr,List.cons_append,List.nil_append]
 by_cases m:p.log.mode = 2
 ·simp only [↓vS,vT,shb,shv,qb,qc,cellsOf,wr,qa,simprocAttr,m]
  have e:qaO p a = (qW p.log.mode p.log.calls.length false true,QS a 2147418112 p.log.calls,2147221504):=by simp [qaO,m]
  rw [e]
  refine qec h2 h3 p a 2147221504 2147418112 hp (Wk.mkd _ _ [0,1] ?_ ?_ ?_ rfl (by simp) ?_)
  ·simp [vw]
  ·simp [vw,mkB,mkC,qj,qk,qo,qf,qd,m,rR]
  ·simp [zz,mkB]
  ·intro b hb; have:b = 0 ∨ b = 1:=by omega
   rcases this with rfl | rfl <;> simp [yN,rl]
 ·simp only [↓vS,vT,shb,shv,qb,qc,cellsOf,wr,qa,simprocAttr,m]
  have e:qaO p a = (qW p.log.mode p.log.calls.length false true,QS a 2147221504 p.log.calls,2147418112):=by simp [qaO,m]
  rw [e]
  refine qec h2 h3 p a 2147418112 2147221504 hp (Wk.mkd _ _ [0,1] ?_ ?_ ?_ rfl (by simp) ?_)
  ·simp [vw]
  ·simp [vw,mkB,mkC,qj,qk,qo,qf,qd,rR]
  ·simp [zz,mkB]
  ·intro b hb; have:b = 0 ∨ b = 1:=by omega
   rcases this with rfl | rfl <;> simp [yN,rl]
end Go.Kc
end
