/- Part 7 of the abstract machine and of the functions' walks. Conditions: with each theorem. -/
import Derived.Test.YtpgbjeabmkbmbaaGreatEK6
import Derived.Lib.Join
import Derived.Below
import Derived.Lib.ItoaLen
set_option maxHeartbeats 4000000
set_option linter.unusedSectionVars false
set_option linter.unusedSimpArgs false
set_option linter.unusedVariables false
set_option linter.unnecessarySimpa false
section
namespace Go.Kc
variable [Cur]
variable {P:Program} {f:Nat}
def Qa:List (List UInt8×List Int):=[([98,105,110,100],[49,361,49,282,200,200]),([98,112,102],[321,357,321,386,280,280]),([98,114,107],[12,45,12,45,214,214]),([99,108,111,99,107,95,115,101,116,116,105,109,101],[227,264,227,262,112,112]),([99,108,111,110,101],[56,120,56,120,220,220]),([99,108,111,110,101,51],[435,435,(-1),435,435,435]),([99,108,111,115,101],[3,6,3,6,57,57]),([99,111,110,110,101,99,116],[42,362,42,283,203,203]),([100,101,108,101,116,101,95,109,111,100,117,108,101],[176,129,176,129,106,106]),([101,120,101,99,118,101],[59,11,520,11,221,221]),([101,120,105,116],[60,1,60,1,93,93]),([102,105,110,105,116,95,109,111,100,117,108,101],[313,350,313,379,273,273]),([102,111,114,107],[57,2,57,2,(-1),(-1)]),([103,101,116,117,105,100],[102,24,102,24,174,174]),([105,110,105,116,95,109,111,100,117,108,101],[175,128,(-1),128,105,105]),([105,111,99,116,108],[16,54,514,54,29,29]),([107,105,108,108],[62,37,62,37,129,129]),([108,105,115,116,101,110],[50,363,50,284,201,201]),([109,109,97,112],[9,90,9,(-1),222,222]),([109,111,117,110,116],[165,21,165,21,40,40]),([109,112,114,111,116,101,99,116],[10,125,10,125,226,226]),([109,117,110,109,97,112],[11,91,11,91,215,215]),([111,112,101,110],[2,5,2,5,(-1),(-1)]),([111,112,101,110,97,116],[257,295,257,322,56,56]),([112,101,114,115,111,110,97,108,105,116,121],[135,136,135,136,92,92]),([112,107,101,121,95,109,112,114,111,116,101,99,116],[329,380,329,394,288,(-1)]),([112,116,114,97,99,101],[101,26,521,26,117,117]),([114,101,97,100],[0,3,0,3,63,63]),([114,101,98,111,111,116],[169,88,169,88,142,142]),([115,99,104,101,100,95,115,101,116,97,116,116,114],[314,351,314,380,274,274]),([115,99,104,101,100,95,115,101,116,115,99,104,101,100,117,108,101,114],[144,156,144,156,119,119]),([115,101,99,99,111,109,112],[317,354,317,383,277,277]),([115,101,116,110,115],[308,346,308,375,268,268]),([115,101,116,116,105,109,101,111,102,100,97,121],[164,79,164,79,170,170]),([115,101,116,117,105,100],[105,23,105,23,146,146]),([115,104,109,97,116],[30,397,(-1),305,196,196]),([115,111,99,107,101,116],[41,359,41,281,198,198]),([117,109,111,117,110,116,50],[166,52,166,52,39,39]),([117,110,115,104,97,114,101],[272,310,272,337,97,97]),([119,114,105,116,101],[1,4,1,4,64,64])]
def qed(s:List UInt8):Bool:=(Qa.find? (fun x=>decide (x.1=s))).isSome
def okC(c:GCall):Bool:=qed c.name&&qq1 c.act
noncomputable def qbm:Option GCall->List GCall->Bool
 | _,[]=>true
 | o,c::l=>okC c&&(o.elim true fun b=>ltS b.name c.name)&&qbm (some c) l
noncomputable def qh8(l:GList):Bool:=decide (l.mode<=2)&&(decide (l.mode≠0)||decide (l.calls=[]))&&qbm none l.calls





end Go.Kc
end
section
namespace Go.Kc
variable [Cur]
variable (E:List UInt8->List (List UInt8)×Int)
end Go.Kc
end
section
namespace Go.Kc
variable [Cur]
theorem qeX:∀a:List UInt8,ltS a a=false
 | []=>rfl
 | c::x=>by rw[qdu,if_neg (UInt8.lt_irrefl c),if_pos rfl];exact qeX x
theorem qbO:∀{a b c:List UInt8},ltS a b=true->ltS b c=true->ltS a c=true
 | _,[],[],_,h2=>by simp[qkq] at h2
 | _,_::_,[],_,h2=>by simp[qdv] at h2
 | [],_,_::_,_,_=>rfl
 | _::_,[],_::_,h1,_=>by simp[qdv] at h1
 | a::x,b::y,c::z,h1,h2=>by
  rw[qdu] at h1 h2 ⊢;simp only[UInt8.lt_iff_toNat_lt,← UInt8.toNat_inj] at h1 h2 ⊢
  by_cases e1:a.toNat<b.toNat
  ·by_cases e2:b.toNat<c.toNat
   ·rw[if_pos (by omega)]
   ·rw[if_neg e2] at h2;split at h2
    ·rw[if_pos (by omega)]
    ·cases h2
  ·rw[if_neg e1] at h1;split at h1
   ·rename_i e3
    by_cases e2:b.toNat<c.toNat
    ·rw[if_pos (by omega)]
    ·rw[if_neg e2] at h2;split at h2
     ·rw[if_neg (by omega),if_pos (by omega)];exact qbO h1 h2
     ·cases h2
   ·cases h1
theorem qnl{a b:List UInt8}(h:ltS a b=true):a≠b:=by
 intro e;rw[e,qeX] at h;cases h
def Up(l:List GCall):Prop:=l.Pairwise fun a b=>ltS a.name b.name=true
theorem qbn:∀(o:Option GCall) (l:List GCall),qbm o l=true↔((∀c ∈ l,okC c=true)∧Up l∧∀b,o=some b->∀c ∈ l,ltS b.name c.name=true)
 | o,[]=>by simp[qbm,Up]
 | o,c::l=>by
  have ih:=qbn (some c) l;simp only[qbm,Bool.and_eq_true,ih,Up,List.pairwise_cons,List.mem_cons,forall_eq_or_imp];constructor
  ·rintro⟨⟨h1,h2⟩,h3,h4,h5⟩;refine⟨⟨h1,h3⟩,⟨h5 c rfl,h4⟩,?_⟩;rintro b rfl;exact⟨h2,fun d hd=>qbO h2 (h5 c rfl d hd)⟩
  ·rintro⟨⟨h1,h3⟩,⟨h5,h4⟩,h6⟩;refine⟨⟨h1,?_⟩,h3,h4,?_⟩
   ·cases o with
    | none=>rfl
    | some b=>exact (h6 b rfl).1
   ·rintro b hb;cases hb;exact h5
theorem qh9(l:GList):qh8 l=true↔(l.mode<=2∧(l.mode≠0∨l.calls=[]))∧(∀c ∈ l.calls,okC c=true)∧Up l.calls:=by
 unfold qh8;rw[Bool.and_eq_true,Bool.and_eq_true,Bool.or_eq_true,decide_eq_true_eq,decide_eq_true_eq,decide_eq_true_eq,qbn];simp
theorem y4{α:Type} [DecidableEq α]:∀{l t:List α},l.Nodup->(∀x ∈ l,x ∈ t)->l.length<=t.length
 | [],_,_,_=>Nat.zero_le _
 | x::l,t,hn,hs=>by
  have hn':=List.nodup_cons.1 hn;have hx:=hs x List.mem_cons_self;have h1:=y4 (t:=t.erase x) hn'.2 (fun y hy=>(List.mem_erase_of_ne (fun (e:y=x)=>hn'.1 (by rw[← e];exact hy))).2 (hs y (List.mem_cons_of_mem _ hy)))
  have h2:=List.length_erase_of_mem hx;have h3:0<t.length:=List.length_pos_of_mem hx;simp only[List.length_cons];omega
theorem qee{s:List UInt8}(h:qed s=true):s ∈ Qa.map (·.1):=by
 unfold qed at h;obtain⟨x,hx⟩:=Option.isSome_iff_exists.1 h;have h1:=List.mem_of_find?_eq_some hx;have h2:=List.find?_some hx;exact List.mem_map.2 ⟨x,h1,of_decide_eq_true h2⟩
theorem qe0{l:GList}(h:qh8 l=true):l.calls.length<=40:=by
 obtain⟨_,h1,h2⟩:=(qh9 l).1 h
 have:=y4 (l:=l.calls.map (·.name)) (t:=Qa.map (·.1)) (List.pairwise_map.2 (List.Pairwise.imp (R:=fun a b:GCall=>ltS a.name b.name=true) (fun hab=>qnl hab) h2)) (by
  intro x hx;obtain⟨c,hc,rfl⟩:=List.mem_map.1 hx;have:=h1 c hc;simp only[okC,Bool.and_eq_true] at this;exact qee this.1)
 have e:(Qa.map (·.1)).length=40:=by rw[List.length_map];rfl
 rw[List.length_map] at this;omega
end Go.Kc
end
section
namespace Go.Kc
variable [Cur]
variable (E:List UInt8->List (List UInt8)×Int)
variable {E}
end Go.Kc
end
section
namespace Go.Kc
variable [Cur]
variable {P:Program} {f:Nat}



def qa0(a:Asg)(n:GNote):GNote:=⟨a.file,a.line,n.err,n.text⟩














theorem qa8{k:IntKind}{L:List Int}{j:Nat}(h:j<L.length)(x:Int):(rI k L).take j++(AV.i k x::(rI k L).drop (j+1))=rI k (L.set j x):=by
 unfold rI;rw[List.set_eq_take_append_cons_drop,if_pos h,List.map_append,List.map_cons,List.map_take,List.map_drop]
def qdz(n:Int):List (List UInt8×Int)->List UInt8
 | []=>[]
 | p::l=>if p.2=n then p.1 else qdz n l
def qmO(n:Int):Bool:=decide (qdz n ww≠[])
def qpQ(n:Int):Bool:=decide (n=2147483648)||(decide (327680<=n)&&decide (n<=331775))
section
variable {g1 g2 g3 g4:Nat}
end
structure GTest where
 arg:Int
 mask:Int
 val:Int
 act:Int
def qpI(t:GTest):List AV:=[.i .i64 t.arg,.i .u64 t.mask,.i .u64 t.val,.i .u32 t.act]
def rT(l:List GTest):List AV:=l.flatMap qpI
structure GRule where
 nr:Int
 tests:List GTest
 act:Int
def qpG(r:GRule):List AV:=[.i .u32 r.nr,.fz r.tests.length (rT r.tests),.i .u32 r.act]
def rR(l:List GRule):List AV:=l.flatMap qpG
structure GFil where
 arch:Int
 rules:List GRule
 dflt:Int
def qsl(x:GFil):List AV:=[.i .i64 x.arch,.fz x.rules.length (rR x.rules),.i .u32 x.dflt]
section
variable {l m:List GTest} {j:Nat}
end
section
variable {l m:List GRule} {j:Nat}
end
def qsm(x:List UInt8×List Int)(a:Int):Option Int :=
 if a<0∨6<=a∨x.2.getD a.toNat 0<0 then none else some (if a=2 then orI .u32 (IntKind.wrap .u32 (x.2.getD a.toNat 0)) 1073741824 else IntKind.wrap .u32 (x.2.getD a.toNat 0))









section
variable {l m:List GFil} {j:Nat}
end


section
variable {g1 g2:Nat}
end
section
variable {g1 g2:Nat}
end
section
variable {g1 g2 g3 g4 g5:Nat}
end

end Go.Kc
end
section
namespace Go.Kc
variable [Cur]

end Go.Kc
end
section
namespace Go.Kc
variable [Cur]
variable {P:Program} {f:Nat}
def yn:IFn:=⟨[.tmp 2],.seq (.r [.m 2 (.c (.i .u32 0))]) (.seq (.r [.n 3 0,.q 4 (.bin .andNot (.t 3) (.c (.i .u32 65535))),.n 2 4]) (.ret))⟩
theorem qqQ(hc:qh P f yn=true)(n:Int):qb P f [.i .u32 n] (.i .u32 (qbs .u32 n 65535)):=by
 refine qb.mk hc rfl ?_;simp only[yn,vI,simprocAttr];simp only[↓vS,vT,simprocAttr,vZ]


end Go.Kc
end
section
namespace Go.Kc
variable [Cur]
end Go.Kc
end
section
namespace Go.Kc
variable [Cur]
variable {P:Program} {f:Nat}

section
variable {g1 g2 g3 g4 g5:Nat}
end
end Go.Kc
end
section
namespace Go.Kc
variable [Cur]
structure PMay (p:Pol):Prop where
 own:∀c ∈ p.log.calls,c.act=0
 deny:qpQ p.deny=true
 mode:p.fmode<=2∧(p.fmode≠0∨p.fams=[])
 ar:∀a ∈ p.arches,0<=a∧a<6
 ap:p.arches.Pairwise (· < ·)
 fr:∀n ∈ p.fams,qmO n=true
 fp:p.fams.Pairwise (· < ·)
 fil:qh8 p.filter=true
 log:qh8 p.log=true
 sp:qbs .u64 p.spaces 2114060416=0
structure PI (p:Pol):Prop where
 may:PMay p
 f0:0<=p.filter.mode
 l0:0<=p.log.mode
 m0:0<=p.fmode
 s0:0<=p.spaces∧p.spaces<18446744073709551616
theorem qaY{l:List Int}(h:l.Pairwise (· < ·)):l.Nodup:=h.imp fun h e=>by omega
theorem qhz{n:Int}(h:qmO n=true):n ∈ ww.map (·.2):=by
 unfold qmO at h;have h':qdz n ww≠[]:=by simpa using h
 have:∀(t:List (List UInt8×Int)),qdz n t≠[]->n ∈ t.map (·.2):=by
  intro t
  induction t with
  | nil=>intro h;exact absurd rfl h
  | cons x t ih =>
   intro h;unfold qdz at h;split at h
   ·rename_i e;simp[e]
   ·exact List.mem_cons_of_mem _ (ih h)
 exact this _ h'
theorem qgL{a:Int}(h:0<=a∧a<6):a ∈ ([0,1,2,3,4,5]:List Int):=by
 have:a=0∨a=1∨a=2∨a=3∨a=4∨a=5:=by omega
 simpa using this
theorem PMay.lens{p:Pol}(h:PMay p):p.arches.length<=6∧p.fams.length<=8∧p.filter.calls.length<=40∧p.log.calls.length<=40 :=
 ⟨y4 (t:=[0,1,2,3,4,5]) (qaY h.ap) fun x hx=>qgL (h.ar x hx),y4 (t:=ww.map (·.2)) (qaY h.fp) fun x hx=>qhz (h.fr x hx),qe0 h.fil,qe0 h.log⟩
theorem PI.ok{p:Pol}(h:PI p):PolOk p:=by
 obtain⟨h1,h2,h3,h4⟩:=h.may.lens;exact⟨by omega,by omega,by omega,by omega⟩
variable {E:List UInt8->List (List UInt8)×Int}
variable (E)
variable {E}
end Go.Kc
end
section
namespace Go.Kc
variable [Cur]
variable {P:Program} {f:Nat}
instance:DecidableEq GCall:=fun a b=>if h:a.name=b.name∧a.act=b.act then isTrue (by obtain⟨h1,h2⟩:=h;cases a;cases b;simp_all) else isFalse (by rintro rfl;exact h ⟨rfl,rfl⟩)
section
variable {l m:List Asg} {j:Nat}
end
end Go.Kc
end
section
namespace Go.Kc
variable [Cur]
variable {P:Program} {f:Nat}
variable {E:List UInt8->List (List UInt8)×Int}
section
variable {g1 g2 g3 g4:Nat}
end
end Go.Kc
end
section
namespace Go.Kc
variable [Cur]
variable {P:Program} {f:Nat}
end Go.Kc
end
section
namespace Go.Kc
variable [Cur]
open Go.RowKit
variable {P:Program} {f:Nat}
end Go.Kc
end
section
namespace Go.Kc
variable [Cur]
variable {P:Program} {f:Nat}
structure GData where
 nr:Int
 arch:Int
 ip:Int
 a0:Int
 a1:Int
 a2:Int
 a3:Int
 a4:Int
 a5:Int
def qP(d:GData):List AV:=[.i .u32 d.nr,.i .u32 d.arch,.i .u64 d.ip,.i .u64 d.a0,.i .u64 d.a1,.i .u64 d.a2,.i .u64 d.a3,.i .u64 d.a4,.i .u64 d.a5]
def ofM(t n:Int):Int×Bool :=
 if Xc (fun x=>decide (x.2=t)) qbi 0<0 then (0,false)
 else if Xc (fun x=>decide (x.2=t)) qbi 0=0∧Z9 .u32 n 1073741824≠0 then (2,true)
 else (Xc (fun x=>decide (x.2=t)) qbi 0,true)
section
variable {g1 g2 g3 g4 g5:Nat}
end


section
variable {e1 e2 g3 g4 g5 g6 g7:Nat}
end
section
variable {g1 g2 g3 g4 g5 g6 g7 g8 g9 g10 g11 g12:Nat}
end



end Go.Kc
end
section
namespace Go.Kc
variable [Cur]
variable {P:Program} {f g1 g2:Nat}

end Go.Kc
end
section
namespace Go.Kc
variable [Cur]
variable {P:Program} {f:Nat}
section
variable {g1 g2 g3 g4 g5 g6 g7 g8 g9:Nat}
end
end Go.Kc
end
section
namespace Go.Kc
variable [Cur]
section
variable {P:Program} {f g1 g2 g3 g4 g5 g6 g7 g8 g9:Nat}
end
section
variable {P:Program} {f g1 g2 g3 g4 g5 g6 g7 g8 g9:Nat}
end

end Go.Kc
end
section
namespace Go.Kc
variable [Cur]
variable {P:Program} {f:Nat}
def wd(x:Int×List UInt8×Int):List AV:=[.i .u16 x.1,.s x.2.1,.i .u8 x.2.2]
theorem qdG(x:Int×List UInt8×Int):(wd x).length=3:=rfl
def xJ:List (Int×List UInt8×Int):=[(32,[108,100,97,98,115],1),(128,[108,100,108,101,110],1),(0,[108,100,105],1),(96,[108,100,109],1),(129,[108,100,120,108,101,110],1),(1,[108,100,120,105],1),(97,[108,100,120,109],1),(2,[115,116],2),(3,[115,116,120],2),(4,[97,100,100],3),(20,[115,117,98],3),(36,[109,117,108],3),(52,[100,105,118],3),(68,[111,114],3),(84,[97,110,100],3),(100,[108,115,104],3),(116,[114,115,104],3),(164,[120,111,114],3),(12,[97,100,100,120],3),(28,[115,117,98,120],3),(44,[109,117,108,120],3),(60,[100,105,118,120],3),(76,[111,114,120],3),(92,[97,110,100,120],3),(108,[108,115,104,120],3),(124,[114,115,104,120],3),(172,[120,111,114,120],3),(132,[110,101,103],3),(5,[106,97],4),(21,[106,101,113],4),(37,[106,103,116],4),(53,[106,103,101],4),(69,[106,115,101,116],4),(29,[106,101,113,120],4),(45,[106,103,116,120],4),(61,[106,103,101,120],4),(77,[106,115,101,116,120],4),(6,[114,101,116],5),(22,[114,101,116,97],5),(7,[116,97,120],6),(135,[116,120,97],6)]
def zE:List AV:=[.i .u16 0,.s [],.i .u8 0]
def xr(c:Int):Option (Int×List UInt8×Int):=xJ.find? fun x=>decide (x.1=c)
def kc:Option (Int×List UInt8×Int)->List AV
 | some x=>wd x
 | none=>zE
def qm(c:Int):Int:=(xr c).elim 0 fun x=>x.2.2
def zO(c:Int):Bool:=(xr c).isSome
def kO:IFn:=⟨[.cell 0 123 true],.seq (.r [.q 0 (.alloc [.i .u16 0,.s [],.i .u8 0,.i .u16 0,.s [],.i .u8 0,.i .u16 0,.s [],.i .u8 0,.i .u16 0,.s [],.i .u8 0,.i .u16 0,.s [],.i .u8 0,.i .u16 0,.s [],.i .u8 0,.i .u16 0,.s [],.i .u8 0,.i .u16 0,.s [],.i .u8 0,.i .u16 0,.s [],.i .u8 0,.i .u16 0,.s [],.i .u8 0,.i .u16 0,.s [],.i .u8 0,.i .u16 0,.s [],.i .u8 0,.i .u16 0,.s [],.i .u8 0,.i .u16 0,.s [],.i .u8 0,.i .u16 0,.s [],.i .u8 0,.i .u16 0,.s [],.i .u8 0,.i .u16 0,.s [],.i .u8 0,.i .u16 0,.s [],.i .u8 0,.i .u16 0,.s [],.i .u8 0,.i .u16 0,.s [],.i .u8 0,.i .u16 0,.s [],.i .u8 0,.i .u16 0,.s [],.i .u8 0,.i .u16 0,.s [],.i .u8 0,.i .u16 0,.s [],.i .u8 0,.i .u16 0,.s [],.i .u8 0,.i .u16 0,.s [],.i .u8 0,.i .u16 0,.s [],.i .u8 0,.i .u16 0,.s [],.i .u8 0,.i .u16 0,.s [],.i .u8 0,.i .u16 0,.s [],.i .u8 0,.i .u16 0,.s [],.i .u8 0,.i .u16 0,.s [],.i .u8 0,.i .u16 0,.s [],.i .u8 0,.i .u16 0,.s [],.i .u8 0,.i .u16 0,.s [],.i .u8 0,.i .u16 0,.s [],.i .u8 0,.i .u16 0,.s [],.i .u8 0,.i .u16 0,.s [],.i .u8 0,.i .u16 0,.s [],.i .u8 0,.i .u16 0,.s [],.i .u8 0,.i .u16 0,.s [],.i .u8 0])]) (.seq (.r [.q 1 (.build [.i .u16 0,.s [],.i .u8 0] [(0,1,(.c (.i .u16 32))),(1,1,(.c (.s [108,100,97,98,115]))),(2,1,(.c (.i .u8 1)))]),.q 2 (.build [.i .u16 0,.s [],.i .u8 0] [(0,1,(.c (.i .u16 128))),(1,1,(.c (.s [108,100,108,101,110]))),(2,1,(.c (.i .u8 1)))]),.q 3 (.build [.i .u16 0,.s [],.i .u8 0] [(0,1,(.c (.i .u16 0))),(1,1,(.c (.s [108,100,105]))),(2,1,(.c (.i .u8 1)))]),.q 4 (.build [.i .u16 0,.s [],.i .u8 0] [(0,1,(.c (.i .u16 96))),(1,1,(.c (.s [108,100,109]))),(2,1,(.c (.i .u8 1)))]),.q 5 (.build [.i .u16 0,.s [],.i .u8 0] [(0,1,(.c (.i .u16 129))),(1,1,(.c (.s [108,100,120,108,101,110]))),(2,1,(.c (.i .u8 1)))]),.q 6 (.build [.i .u16 0,.s [],.i .u8 0] [(0,1,(.c (.i .u16 1))),(1,1,(.c (.s [108,100,120,105]))),(2,1,(.c (.i .u8 1)))]),.q 7 (.build [.i .u16 0,.s [],.i .u8 0] [(0,1,(.c (.i .u16 97))),(1,1,(.c (.s [108,100,120,109]))),(2,1,(.c (.i .u8 1)))]),.q 8 (.build [.i .u16 0,.s [],.i .u8 0] [(0,1,(.c (.i .u16 2))),(1,1,(.c (.s [115,116]))),(2,1,(.c (.i .u8 2)))]),.q 9 (.build [.i .u16 0,.s [],.i .u8 0] [(0,1,(.c (.i .u16 3))),(1,1,(.c (.s [115,116,120]))),(2,1,(.c (.i .u8 2)))]),.q 10 (.build [.i .u16 0,.s [],.i .u8 0] [(0,1,(.c (.i .u16 4))),(1,1,(.c (.s [97,100,100]))),(2,1,(.c (.i .u8 3)))]),.q 11 (.build [.i .u16 0,.s [],.i .u8 0] [(0,1,(.c (.i .u16 20))),(1,1,(.c (.s [115,117,98]))),(2,1,(.c (.i .u8 3)))]),.q 12 (.build [.i .u16 0,.s [],.i .u8 0] [(0,1,(.c (.i .u16 36))),(1,1,(.c (.s [109,117,108]))),(2,1,(.c (.i .u8 3)))]),.q 13 (.build [.i .u16 0,.s [],.i .u8 0] [(0,1,(.c (.i .u16 52))),(1,1,(.c (.s [100,105,118]))),(2,1,(.c (.i .u8 3)))]),.q 14 (.build [.i .u16 0,.s [],.i .u8 0] [(0,1,(.c (.i .u16 68))),(1,1,(.c (.s [111,114]))),(2,1,(.c (.i .u8 3)))]),.q 15 (.build [.i .u16 0,.s [],.i .u8 0] [(0,1,(.c (.i .u16 84))),(1,1,(.c (.s [97,110,100]))),(2,1,(.c (.i .u8 3)))]),.q 16 (.build [.i .u16 0,.s [],.i .u8 0] [(0,1,(.c (.i .u16 100))),(1,1,(.c (.s [108,115,104]))),(2,1,(.c (.i .u8 3)))]),.q 17 (.build [.i .u16 0,.s [],.i .u8 0] [(0,1,(.c (.i .u16 116))),(1,1,(.c (.s [114,115,104]))),(2,1,(.c (.i .u8 3)))]),.q 18 (.build [.i .u16 0,.s [],.i .u8 0] [(0,1,(.c (.i .u16 164))),(1,1,(.c (.s [120,111,114]))),(2,1,(.c (.i .u8 3)))]),.q 19 (.build [.i .u16 0,.s [],.i .u8 0] [(0,1,(.c (.i .u16 12))),(1,1,(.c (.s [97,100,100,120]))),(2,1,(.c (.i .u8 3)))]),.q 20 (.build [.i .u16 0,.s [],.i .u8 0] [(0,1,(.c (.i .u16 28))),(1,1,(.c (.s [115,117,98,120]))),(2,1,(.c (.i .u8 3)))]),.q 21 (.build [.i .u16 0,.s [],.i .u8 0] [(0,1,(.c (.i .u16 44))),(1,1,(.c (.s [109,117,108,120]))),(2,1,(.c (.i .u8 3)))]),.q 22 (.build [.i .u16 0,.s [],.i .u8 0] [(0,1,(.c (.i .u16 60))),(1,1,(.c (.s [100,105,118,120]))),(2,1,(.c (.i .u8 3)))]),.q 23 (.build [.i .u16 0,.s [],.i .u8 0] [(0,1,(.c (.i .u16 76))),(1,1,(.c (.s [111,114,120]))),(2,1,(.c (.i .u8 3)))]),.q 24 (.build [.i .u16 0,.s [],.i .u8 0] [(0,1,(.c (.i .u16 92))),(1,1,(.c (.s [97,110,100,120]))),(2,1,(.c (.i .u8 3)))]),.q 25 (.build [.i .u16 0,.s [],.i .u8 0] [(0,1,(.c (.i .u16 108))),(1,1,(.c (.s [108,115,104,120]))),(2,1,(.c (.i .u8 3)))]),.q 26 (.build [.i .u16 0,.s [],.i .u8 0] [(0,1,(.c (.i .u16 124))),(1,1,(.c (.s [114,115,104,120]))),(2,1,(.c (.i .u8 3)))]),.q 27 (.build [.i .u16 0,.s [],.i .u8 0] [(0,1,(.c (.i .u16 172))),(1,1,(.c (.s [120,111,114,120]))),(2,1,(.c (.i .u8 3)))]),.q 28 (.build [.i .u16 0,.s [],.i .u8 0] [(0,1,(.c (.i .u16 132))),(1,1,(.c (.s [110,101,103]))),(2,1,(.c (.i .u8 3)))]),.q 29 (.build [.i .u16 0,.s [],.i .u8 0] [(0,1,(.c (.i .u16 5))),(1,1,(.c (.s [106,97]))),(2,1,(.c (.i .u8 4)))]),.q 30 (.build [.i .u16 0,.s [],.i .u8 0] [(0,1,(.c (.i .u16 21))),(1,1,(.c (.s [106,101,113]))),(2,1,(.c (.i .u8 4)))]),.q 31 (.build [.i .u16 0,.s [],.i .u8 0] [(0,1,(.c (.i .u16 37))),(1,1,(.c (.s [106,103,116]))),(2,1,(.c (.i .u8 4)))]),.q 32 (.build [.i .u16 0,.s [],.i .u8 0] [(0,1,(.c (.i .u16 53))),(1,1,(.c (.s [106,103,101]))),(2,1,(.c (.i .u8 4)))]),.q 33 (.build [.i .u16 0,.s [],.i .u8 0] [(0,1,(.c (.i .u16 69))),(1,1,(.c (.s [106,115,101,116]))),(2,1,(.c (.i .u8 4)))]),.q 34 (.build [.i .u16 0,.s [],.i .u8 0] [(0,1,(.c (.i .u16 29))),(1,1,(.c (.s [106,101,113,120]))),(2,1,(.c (.i .u8 4)))]),.q 35 (.build [.i .u16 0,.s [],.i .u8 0] [(0,1,(.c (.i .u16 45))),(1,1,(.c (.s [106,103,116,120]))),(2,1,(.c (.i .u8 4)))]),.q 36 (.build [.i .u16 0,.s [],.i .u8 0] [(0,1,(.c (.i .u16 61))),(1,1,(.c (.s [106,103,101,120]))),(2,1,(.c (.i .u8 4)))]),.q 37 (.build [.i .u16 0,.s [],.i .u8 0] [(0,1,(.c (.i .u16 77))),(1,1,(.c (.s [106,115,101,116,120]))),(2,1,(.c (.i .u8 4)))]),.q 38 (.build [.i .u16 0,.s [],.i .u8 0] [(0,1,(.c (.i .u16 6))),(1,1,(.c (.s [114,101,116]))),(2,1,(.c (.i .u8 5)))]),.q 39 (.build [.i .u16 0,.s [],.i .u8 0] [(0,1,(.c (.i .u16 22))),(1,1,(.c (.s [114,101,116,97]))),(2,1,(.c (.i .u8 5)))]),.q 40 (.build [.i .u16 0,.s [],.i .u8 0] [(0,1,(.c (.i .u16 7))),(1,1,(.c (.s [116,97,120]))),(2,1,(.c (.i .u8 6)))]),.q 41 (.build [.i .u16 0,.s [],.i .u8 0] [(0,1,(.c (.i .u16 135))),(1,1,(.c (.s [116,120,97]))),(2,1,(.c (.i .u8 6)))]),.q 42 (.build [.i .u16 0,.s [],.i .u8 0,.i .u16 0,.s [],.i .u8 0,.i .u16 0,.s [],.i .u8 0,.i .u16 0,.s [],.i .u8 0,.i .u16 0,.s [],.i .u8 0,.i .u16 0,.s [],.i .u8 0,.i .u16 0,.s [],.i .u8 0,.i .u16 0,.s [],.i .u8 0,.i .u16 0,.s [],.i .u8 0,.i .u16 0,.s [],.i .u8 0,.i .u16 0,.s [],.i .u8 0,.i .u16 0,.s [],.i .u8 0,.i .u16 0,.s [],.i .u8 0,.i .u16 0,.s [],.i .u8 0,.i .u16 0,.s [],.i .u8 0,.i .u16 0,.s [],.i .u8 0,.i .u16 0,.s [],.i .u8 0,.i .u16 0,.s [],.i .u8 0,.i .u16 0,.s [],.i .u8 0,.i .u16 0,.s [],.i .u8 0,.i .u16 0,.s [],.i .u8 0,.i .u16 0,.s [],.i .u8 0,.i .u16 0,.s [],.i .u8 0,.i .u16 0,.s [],.i .u8 0,.i .u16 0,.s [],.i .u8 0,.i .u16 0,.s [],.i .u8 0,.i .u16 0,.s [],.i .u8 0,.i .u16 0,.s [],.i .u8 0,.i .u16 0,.s [],.i .u8 0,.i .u16 0,.s [],.i .u8 0,.i .u16 0,.s [],.i .u8 0,.i .u16 0,.s [],.i .u8 0,.i .u16 0,.s [],.i .u8 0,.i .u16 0,.s [],.i .u8 0,.i .u16 0,.s [],.i .u8 0,.i .u16 0,.s [],.i .u8 0,.i .u16 0,.s [],.i .u8 0,.i .u16 0,.s [],.i .u8 0,.i .u16 0,.s [],.i .u8 0,.i .u16 0,.s [],.i .u8 0,.i .u16 0,.s [],.i .u8 0] [(0,3,(.t 1)),(3,3,(.t 2)),(6,3,(.t 3)),(9,3,(.t 4)),(12,3,(.t 5)),(15,3,(.t 6)),(18,3,(.t 7)),(21,3,(.t 8)),(24,3,(.t 9)),(27,3,(.t 10)),(30,3,(.t 11)),(33,3,(.t 12)),(36,3,(.t 13)),(39,3,(.t 14)),(42,3,(.t 15)),(45,3,(.t 16)),(48,3,(.t 17)),(51,3,(.t 18)),(54,3,(.t 19)),(57,3,(.t 20)),(60,3,(.t 21)),(63,3,(.t 22)),(66,3,(.t 23)),(69,3,(.t 24)),(72,3,(.t 25)),(75,3,(.t 26)),(78,3,(.t 27)),(81,3,(.t 28)),(84,3,(.t 29)),(87,3,(.t 30)),(90,3,(.t 31)),(93,3,(.t 32)),(96,3,(.t 33)),(99,3,(.t 34)),(102,3,(.t 35)),(105,3,(.t 36)),(108,3,(.t 37)),(111,3,(.t 38)),(114,3,(.t 39)),(117,3,(.t 40)),(120,3,(.t 41))]),.u (.store 123 (.t 0) (.t 42))]) (.ret))⟩
set_option maxRecDepth 20000 in
theorem qlt(hc:qh P f kO=true):qb P f [] (.agg (xJ.flatMap wd)):=by
 refine qb.mk hc rfl ?_;simp only[kO,vI,simprocAttr];simp only[↓vS,vT,simprocAttr,xJ,wd,List.flatMap_cons,List.flatMap_nil,vZ]
def Zk(a:Nat):IFn:=⟨[.cell 2 3 true,.tmp 3],.seq (.r [.q 2 (.alloc [.i .u16 0,.s [],.i .u8 0]),.m 3 .F]) (.seq (.seq (.r [.l 6 a [],.m 7 (.k 0)]) (.blk 0 (.loop (.seq (.r [.w 8 .lss 7 41]) (.seq (.cond (.t 8) (.skip) (.exit 0)) (.seq (.blk 1 (.seq (.r [.q 9 (.idxA 41 3 true (.t 6) (.t 7)),.q 5 (.alloc [.i .u16 0,.s [],.i .u8 0]),.u (.store 3 (.t 5) (.t 9))]) (.seq (.r [.n 10 0,.v 11 3 5,⟨(some 12),.callV (.t 10) [.t 11],none⟩]) (.cond (.t 12) (.seq (.r [.v 13 3 5,.u (.store 3 (.t 2) (.t 13)),.m 3 .T]) (.ret)) (.skip))))) (.r [.a 14 7 1,.n 7 14]))))))) (.seq (.r [.q 15 (.build [.i .u16 0,.s [],.i .u8 0] []),.u (.store 3 (.t 2) (.t 15)),.m 3 .F]) (.ret)))⟩
theorem qoX{e:Nat}(hc:qh P f (Zk e)=true)(he:qb P e [] (.agg (xJ.flatMap wd))){g:Nat}{a c:List AV}(ha:qx a=true)(hcc:qx c=true)(p:Int×List UInt8×Int->Bool)(hp:∀x ∈ xJ,qb P g (a++([.agg (wd x)]++c)) (.b (p x))) :
  qb P f [.fn g a c] (.tup [.agg (kc (xJ.find? p)),.b (xJ.find? p).isSome]):=by
 refine qb.mk hc (by simp[qx,clo,ha,hcc]) ?_;simp only[Zk,vI,simprocAttr];simp only[↓vS,vT,simprocAttr];refine he.sc ?_;simp only[↓vS,vT,simprocAttr];have hlen:(xJ.flatMap wd).length=123:=by rw[xY (m:=3) qdG];rfl
 have hTc:qx (xJ.flatMap wd)=true:=rfl;refine SL.loop (α:=Nat) (fun j=>[(0,.fn g a c),(2,.ptr 0 0),(6,.agg (xJ.flatMap wd)),(7,.i .i64 j)]) (fun _=>[.cells 0 true false zE]) (fun j=>j<=41∧xJ.find? p=(xJ.drop j).find? p) (fun j=>41-j) 0 [0] ?_ ?_ ?_ rfl ?_ ?_
 ·generalize xJ.flatMap wd=T at hTc;simp[vw,qc,hTc,ha,hcc]
 ·simp[vw,zE]
 ·simp
 ·exact⟨Nat.zero_le _,rfl⟩
 rintro j ⟨hj,hI⟩ G ih;simp only[vI,simprocAttr]
 by_cases hlt:j<41
 ·have hlt':(j:Int)<41:=by omega
  have hjl:j<xJ.length:=hlt;have hx:xJ[j]?=some xJ[j]:=zzE hjl;have hw:IntKind.wrap .i64 ((j:Int)+1)=((j+1:Nat):Int):=by rw[qv (by omega) (by omega)];omega
  have hel:=zP (f:=wd) (m:=3) qdG hx;have hb:j*3+3<=(xJ.flatMap wd).length:=by omega
  have hpx:=hp _ (List.getElem_mem hjl);rw[List.drop_eq_getElem_cons hjl,List.find?_cons] at hI;generalize hc0:xJ[j]=x at hel hI hpx;generalize hT:xJ.flatMap wd=T at hel hb hlen hTc;simp only[wd] at hpx;simp only[↓vS,vT,simprocAttr,hlt',hlt,hel,hb,wd,zE];refine hpx.sc ?_;cases hs:p x with
  | true =>
   rw[hs] at hI;simp +decide only[↓vS,vT,simprocAttr];rw[hI];simp[vZ,kc,wd]
  | false =>
   rw[hs] at hI;simp +decide only[↓vS,vT,simprocAttr,hw];refine ih (j+1) ⟨hlt,hI⟩ (by omega) _ _ (Wk.mk _ _ [0] ?_ ?_ ?_ rfl)
   ·rw[hT];simp[vw,qc,hTc,ha,hcc]
   ·simp[vw,zE]
   ·simp
 ·have hj':j=41:=by omega
  subst hj';have hlt':¬(((41:Nat):Int)<41):=by decide
  have hI':xJ.find? p=none:=hI;clear ih;generalize xJ.flatMap wd=T;simp +decide only[↓vS,vT,simprocAttr,hlt',zE];rw[hI'];simp[vZ,kc,zE]
def Zi:IFn:=⟨[.tmp 3],.seq (.r [.q 2 (.box (.t 0)),.m 3 .F]) (.seq (.r [.f 4 0 2,.d 5 4,.d 6 1,.b 7 .eql 5 6,.n 3 7]) (.ret))⟩
theorem qp2(hc:qh P f Zi=true)(x:Int×List UInt8×Int)(n:Int):qb P f [.agg (wd x),.pf [.i .u16 n] 0] (.b (decide (x.1=n))):=by
 refine qb.mk hc (by simp[qx,clo,wd]) ?_;simp only[Zi,wd,vI,simprocAttr];simp only[↓vS,vT,simprocAttr,vZ]
def qaQ(a b:Nat):IFn:=⟨[.cell 2 3 true,.tmp 3],.seq (.r [.q 1 (.box (.t 0)),.q 2 (.alloc [.i .u16 0,.s [],.i .u8 0]),.m 3 .F]) (.seq (.r [.q 4 (.mkF a [] [.t 1]),.l 5 b [.t 4],.x 6 5 0,.x 7 5 1,.u (.store 3 (.t 2) (.t 6)),.n 3 7]) (.ret))⟩
theorem qqV{g1 g2:Nat}(hc:qh P f (qaQ g1 g2)=true)(h1:∀x n,qb P g1 [.agg (wd x),.pf [.i .u16 n] 0] (.b (decide (x.1=n))))(h2:∀(g:Nat) (a c:List AV),qx a=true->qx c=true->∀p:Int×List UInt8×Int->Bool,(∀x ∈ xJ,qb P g (a++([.agg (wd x)]++c)) (.b (p x)))->qb P g2 [.fn g a c] (.tup [.agg (kc (xJ.find? p)),.b (xJ.find? p).isSome]))(n:Int) :
  qb P f [.i .u16 n] (.tup [.agg (kc (xr n)),.b (zO n)]):=by
 refine qb.mk hc rfl ?_;have h:=h2 g1 [] [.pf [.i .u16 n] 0] rfl rfl (fun x=>decide (x.1=n)) (fun x _=>h1 x n)
 unfold zO xr;have hce:qx (kc (xJ.find? fun x=>decide (x.1=n)))=true∧(kc (xJ.find? fun x=>decide (x.1=n))).length=3:=by cases xJ.find? fun x=>decide (x.1=n)<;>exact⟨rfl,rfl⟩
 generalize (xJ.find? fun x=>decide (x.1=n))=o at h hce ⊢
 simp only[qaQ,vI,simprocAttr];simp only[↓vS,vT,simprocAttr];refine (h.lend (vs':=[.fn g1 [] [.pf [.i .u16 n] 0]]) ?_ ?_ ?_)
 ·simp[vZ,vP,Tr.get_set]
 ·cases o<;>rfl
 cases o with
 | none =>
  simp +decide only[↓vS,vT,simprocAttr,kc,zE];simp[vZ]
 | some x =>
  simp +decide only[↓vS,vT,simprocAttr,kc,wd];simp[vZ]
def qaP(a:Nat):IFn:=⟨[.tmp 2],.seq (.r [.m 2 (.c (.i .u8 0))]) (.seq (.r [.n 6 0,.l 7 a [.t 6],.n 5 7,.x 8 5 0,.x 9 5 1,.q 3 (.alloc [.i .u16 0,.s [],.i .u8 0]),.u (.store 3 (.t 3) (.t 8)),.n 4 9]) (.seq (.r [.f 10 2 3,.d 11 10,.n 2 11]) (.ret)))⟩
theorem qqU{g:Nat}(hc:qh P f (qaP g)=true)(hg:∀n,qb P g [.i .u16 n] (.tup [.agg (kc (xr n)),.b (zO n)]))(n:Int):qb P f [.i .u16 n] (.i .u8 (qm n)):=by
 refine qb.mk hc rfl ?_;have h:=hg n;unfold zO at h;simp only[qaP,vI,simprocAttr];simp only[↓vS,vT,simprocAttr];refine h.sc ?_;cases hcn:xr n with
 | none =>
  simp +decide only[↓vS,vT,simprocAttr,kc,zE];simp[vZ,qm,zO,hcn]
 | some x =>
  simp +decide only[↓vS,vT,simprocAttr,kc,wd];simp[vZ,qm,zO,hcn]
def Qp(a:Nat):IFn:=⟨[.tmp 2],.seq (.r [.m 2 .F]) (.seq (.r [.n 6 0,.l 7 a [.t 6],.n 5 7,.x 8 5 0,.x 9 5 1,.q 3 (.alloc [.i .u16 0,.s [],.i .u8 0]),.u (.store 3 (.t 3) (.t 8)),.n 4 9]) (.seq (.r [.n 10 4,.n 2 10]) (.ret)))⟩
theorem qm3{g:Nat}(hc:qh P f (Qp g)=true)(hg:∀n,qb P g [.i .u16 n] (.tup [.agg (kc (xr n)),.b (zO n)]))(n:Int):qb P f [.i .u16 n] (.b (zO n)):=by
 refine qb.mk hc rfl ?_;have h:=hg n;unfold zO at h;simp only[Qp,vI,simprocAttr];simp only[↓vS,vT,simprocAttr];refine h.sc ?_;cases hcn:xr n with
 | none =>
  simp +decide only[↓vS,vT,simprocAttr,kc,zE];simp[vZ,qm,zO,hcn]
 | some x =>
  simp +decide only[↓vS,vT,simprocAttr,kc,wd];simp[vZ,qm,zO,hcn]
def leM:List Int->Int
 | []=>0
 | x::l=>x+256*leM l
def qG(b:List Int):Prop:=∀x ∈ b,0<=x∧x<=255
theorem qcl:∀(l:List Int) (x:Int),leM (l++[x])=leM l+256 ^ l.length*x
 | [],x=>by simp[leM]
 | y::l,x=>by
  simp only[List.cons_append,leM,qcl l x,List.length_cons,Int.pow_succ,Int.mul_add];have:256*(256 ^ l.length*x)=256 ^ l.length*256*x:=by rw[← Int.mul_assoc,Int.mul_comm 256]
  rw[this];omega
theorem wE:∀{l:List Int},qG l->0<=leM l∧leM l<256 ^ l.length
 | [],_=>by simp[leM]
 | x::l,h=>by
  have h1:=wE (l:=l) fun y hy=>h y (by simp[hy])
  have h2:=h x (by simp);simp only[leM,List.length_cons,Int.pow_succ];omega
theorem qcP{b:List Int}(h:qG b)(n:Nat):qG (b.take n):=fun x hx=>h x (List.mem_of_mem_take hx)
theorem ZS{b:List Int}(h:qG b)(n:Nat):qG (b.drop n):=fun x hx=>h x (List.mem_of_mem_drop hx)
theorem qe6{q:IntKind}(hq:q = .u16∨q = .u32){x c:Int}{i:Nat}(hi:8*(i+1)<=q.bits)(hx0:0<=x)(hx:x<256 ^ i)(hc0:0<=c)(hc:c<=255):orI q x (qdM q (q.wrap c) (8*(i:Int)))=x+256 ^ i*c:=by
 obtain⟨a,rfl⟩:∃a:Nat,x=a:=⟨x.toNat,by omega⟩
 obtain⟨d,rfl⟩:∃d:Nat,c=d:=⟨c.toNat,by omega⟩
 have e256:∀i:Nat,(256:Int) ^ i=((2 ^ (8*i):Nat):Int):=fun i=>by
  rw[Nat.pow_mul];simp
 rw[e256] at hx ⊢;have ha:a<2 ^ (8*i):=by omega
 have hle:2 ^ (8*(i+1))<=2 ^ q.bits:=Nat.pow_le_pow_right (by decide) hi
 have hd:d*2 ^ (8*i)+a<2 ^ q.bits:=by
  have h1:d*2 ^ (8*i)<=255*2 ^ (8*i):=Nat.mul_le_mul_right _ (by omega);have h2:2 ^ (8*(i+1))=256*2 ^ (8*i):=by rw[Nat.mul_add,Nat.pow_add,Nat.mul_comm]
  omega
 have hpos:0<2 ^ (8*i):=Nat.pow_pos (by decide);have hor:(2 ^ (8*i)*d ||| a)=2 ^ (8*i)*d+a:=(Nat.two_pow_add_eq_or_of_lt ha d).symm
 have hd2:d*2 ^ (8*i)<2 ^ q.bits:=by omega
 rcases hq with rfl|rfl
 ·have hb:(2:Nat) ^ IntKind.u16.bits=65536:=by decide
  rw[hb] at hd hd2;have h8:i<=1:=by simp only[IntKind.bits] at hi;omega
  have w1:IntKind.wrap .u16 (d:Int)=d:=by
   show ((d:Int) % 65536)=d;omega
  have w2:qdM .u16 (d:Int) (8*(i:Int))=((d*2 ^ (8*i):Nat):Int):=by
   rcases (by omega:i=0∨i=1) with rfl|rfl
   ·show IntKind.wrap .u16 _=_;simp[p2,IntKind.wrap,IntKind.bits,IntKind.signed];omega
   ·show IntKind.wrap .u16 _=_;simp[p2,IntKind.wrap,IntKind.bits,IntKind.signed] at hd2 ⊢;omega
  rw[w1,w2];show IntKind.wrap .u16 (((BitVec.ofInt 16 (a:Int) ||| BitVec.ofInt 16 ((d*2 ^ (8*i):Nat):Int)).toNat:Nat):Int)=_
  have e1:(BitVec.ofInt 16 (a:Int)).toNat=a:=by rw[BitVec.toNat_ofInt];omega
  have e2:(BitVec.ofInt 16 ((d*2 ^ (8*i):Nat):Int)).toNat=d*2 ^ (8*i):=by rw[BitVec.toNat_ofInt];omega
  rw[BitVec.toNat_or,e1,e2,Nat.or_comm,Nat.mul_comm d,hor];rw[Nat.mul_comm] at hd;show ((2 ^ (8*i)*d+a:Nat):Int) % 65536=_;rw[Int.emod_eq_of_lt (by omega) (by omega)];simp only[Int.natCast_add,Int.natCast_mul];omega
 ·have hb:(2:Nat) ^ IntKind.u32.bits=4294967296:=by decide
  rw[hb] at hd hd2;have h8:i<=3:=by simp only[IntKind.bits] at hi;omega
  have w1:IntKind.wrap .u32 (d:Int)=d:=by
   show ((d:Int) % 4294967296)=d;omega
  have w2:qdM .u32 (d:Int) (8*(i:Int))=((d*2 ^ (8*i):Nat):Int):=by
   rcases (by omega:i=0∨i=1∨i=2∨i=3) with rfl|rfl|rfl|rfl <;>
   ·show IntKind.wrap .u32 _=_;simp[p2,IntKind.wrap,IntKind.bits,IntKind.signed] at hd2 ⊢;omega
  rw[w1,w2];show IntKind.wrap .u32 (((BitVec.ofInt 32 (a:Int) ||| BitVec.ofInt 32 ((d*2 ^ (8*i):Nat):Int)).toNat:Nat):Int)=_
  have e1:(BitVec.ofInt 32 (a:Int)).toNat=a:=by rw[BitVec.toNat_ofInt];omega
  have e2:(BitVec.ofInt 32 ((d*2 ^ (8*i):Nat):Int)).toNat=d*2 ^ (8*i):=by rw[BitVec.toNat_ofInt];omega
  rw[BitVec.toNat_or,e1,e2,Nat.or_comm,Nat.mul_comm d,hor];rw[Nat.mul_comm] at hd;show ((2 ^ (8*i)*d+a:Nat):Int) % 4294967296=_;rw[Int.emod_eq_of_lt (by omega) (by omega)];simp only[Int.natCast_add,Int.natCast_mul];omega
def rB(b:List Int):List AV:=rI .u8 b
theorem wc(b:List Int):(rB b).length=b.length:=xf
theorem qC(b:List Int):qx (rB b)=true:=zk
theorem qa5(b:List Int)(j:Nat):(rB b)[j]?=(b[j]?).map (.i .u8):=qa7
theorem qa6(b:List Int)(s n:Nat):((rB b).drop s).take n=rB ((b.drop s).take n):=by unfold rB rI;rw[List.map_take,List.map_drop]
def qY(b:List Int)(at' n:Nat):List Int:=(b.drop at').take n
theorem xm{b:List Int}{at' n:Nat}(h:at'+n<=b.length):(qY b at' n).length=n:=by unfold qY;simp;omega
theorem qb1{b:List Int}{at' j:Nat}{c:Int}(h:b[at'+j]?=some c):qY b at' (j+1)=qY b at' j++[c]:=by
 unfold qY;rw[List.take_add_one,List.getElem?_drop,h];rfl
theorem wv{b:List Int}(h:qG b)(at' n:Nat):qG (qY b at' n):=qcP (ZS h at') n
def qdg(b:List Int)(at':Nat):AV:=if at'+2<=b.length then .tup [.i .u16 (leM (qY b at' 2)),.b true] else .tup [.i .u16 0,.b false]
def wj:IFn:=⟨[.tmp 6,.tmp 7],.seq (.r [.m 6 (.c (.i .u16 0)),.m 7 .F]) (.seq (.seq (.r [.n 10 1,.w 11 .lss 10 0,.n 12 11,.z 13 1 12,.z 14 0 12,.g 15 (.len false (.t 14)) 12 false,.z 16 2 12,.g 17 (.bin .sub (.t 15) (.t 16)) 12 false,.g 18 (.bin .gtr (.t 13) (.t 17)) 12 false,.o 19 12 18]) (.cond (.t 19) (.seq (.r [.m 6 (.c (.i .u16 0)),.m 7 .F]) (.ret)) (.skip))) (.seq (.r [.m 8 (.c (.i .u16 0))]) (.seq (.seq (.r [.n 20 2,.m 21 (.k 0)]) (.blk 0 (.loop (.seq (.r [.s 22 21 20]) (.seq (.cond (.t 22) (.skip) (.exit 0)) (.seq (.blk 1 (.seq (.r [.n 23 21,.n 9 23]) (.r [.n 24 8,.n 25 0,.n 26 1,.n 27 9,.b 28 .add 26 27,.i 29 1 25 28,.d 30 29,.q 31 (.cvInt .u16 (.t 30)),.n 32 9,.q 33 (.bin .mul (.k 8) (.t 32)),.b 34 .shl 31 33,.b 35 .or 24 34,.n 8 35]))) (.r [.a 36 21 1,.n 21 36]))))))) (.seq (.r [.n 37 8,.n 6 37,.m 7 .T]) (.ret)))))⟩
theorem qr0(hc:qh P f wj=true)(b:List Int)(hb:qG b)(hl:b.length<=1000000)(at':Nat)(ha:at'<=1000000):qb P f [.fz b.length (rB b),.i .i64 at',.i .i64 2] (qdg b at'):=by
 refine qb.mk hc (by simp[qx,clo,qC]) ?_;have hn:¬(at':Int)<0:=by omega
 have hw0:IntKind.wrap .i64 ((b.length:Int)-2)=(b.length:Int)-2:=qv (by omega) (by omega);unfold qdg;simp only[wj,vI,simprocAttr]
 by_cases h:at'+2<=b.length
 ·have h':¬(b.length:Int)-2<(at':Int):=by omega
  rw[if_pos h];simp +decide only[↓vS,vT,simprocAttr,hn,h',hw0];refine SL.loop (α:=Nat) (fun j=>[(0,.fz b.length (rB b)),(1,.i .i64 at'),(8,.i .u16 (leM (qY b at' j))),(20,.i .i64 2),(21,.i .i64 j)]) (fun _=>[]) (fun j=>j<=2) (fun j=>2-j) 0 [] ?_ ?_ ?_ rfl ?_ ?_
  ·simp[vw,qC,qY,leM]
  ·trivial
  ·simp
  ·exact Nat.zero_le _
  rintro j hj G ih;simp only[vI,simprocAttr]
  by_cases hlt:j<2
  ·have hlt':(j:Int)<2:=by omega
   have hjl:at'+j<b.length:=by omega
   obtain⟨c,hcx⟩:∃c,b[at'+j]?=some c:=⟨_,zzE hjl⟩;have hcb:=hb c (zzM hcx);have hw:IntKind.wrap .i64 ((j:Int)+1)=((j+1:Nat):Int):=by rw[qv (by omega) (by omega)];omega
   have hw2:IntKind.wrap .i64 ((at':Int)+(j:Int))=((at'+j:Nat):Int):=by rw[qv (by omega) (by omega)];omega
   have hw3:IntKind.wrap .i64 (8*(j:Int))=8*(j:Int):=qv (by omega) (by omega);have h8:(0:Int)<=8*(j:Int):=by omega
   have hbd:=wE (wv hb at' j);have hsl:(qY b at' j).length=j:=xm (by omega);rw[hsl] at hbd;have hor:=qe6 (q:=.u16) (by simp) (i:=j) (x:=leM (qY b at' j)) (c:=c) (by simp only[IntKind.bits];omega) hbd.1 hbd.2 hcb.1 hcb.2;have hnx:leM (qY b at' (j+1))=leM (qY b at' j)+256 ^ j*c:=by rw[qb1 hcx,qcl,hsl]
   have ih2:=ih (j+1);rw[hnx] at ih2;simp +decide only[↓vS,vT,simprocAttr,hlt',hw2,hjl,Nat.mul_one,qa5,hcx,Option.map_some,hw3,h8,hor,hw];refine ih2 (by omega) (by omega) _ _ (Wk.mk _ _ [] ?_ ?_ ?_ rfl)
   ·simp[vw,qC]
   ·trivial
   ·simp
  ·have hlt':¬(j:Int)<2:=by omega
   obtain rfl:j=2:=by omega
   clear ih;simp +decide only[↓vS,vT,simprocAttr,hlt'];simp[vZ]
 ·have h':(b.length:Int)-2<(at':Int):=by omega
  rw[if_neg h];simp +decide only[↓vS,vT,simprocAttr,hn,h',hw0];simp[vZ]
def yC(a:Nat):IFn:=⟨[.tmp 4,.tmp 5],.seq (.r [.m 4 (.c (.i .u16 0)),.m 5 .F]) (.seq (.r [.n 6 0,.n 7 1,.l 8 a [.t 6,.t 7,.k 2],.x 9 8 0,.x 10 8 1,.n 4 9,.n 5 10]) (.ret))⟩
theorem qrW{g:Nat}(hc:qh P f (yC g)=true)(hg:∀(b:List Int),qG b->b.length<=1000000->∀at':Nat,at'<=1000000->qb P g [.fz b.length (rB b),.i .i64 at',.i .i64 2] (qdg b at'))(b:List Int)(hb:qG b)(hl:b.length<=1000000)(at':Nat)(ha:at'<=1000000):qb P f [.fz b.length (rB b),.i .i64 at'] (qdg b at'):=by
 refine qb.mk hc (by simp[qx,clo,qC]) ?_;have h:=hg b hb hl at' ha;unfold qdg at h ⊢;simp only[yC,vI,simprocAttr];simp only[↓vS,vT,simprocAttr];refine h.sc ?_;split
 ·simp +decide only[↓vS,vT,simprocAttr];simp[vZ]
 ·simp +decide only[↓vS,vT,simprocAttr];simp[vZ]
def qeb(b:List Int)(at':Nat):AV:=if at'+4<=b.length then .tup [.i .u32 (leM (qY b at' 4)),.b true] else .tup [.i .u32 0,.b false]
def wl:IFn:=⟨[.tmp 6,.tmp 7],.seq (.r [.m 6 (.c (.i .u32 0)),.m 7 .F]) (.seq (.seq (.r [.n 10 1,.w 11 .lss 10 0,.n 12 11,.z 13 1 12,.z 14 0 12,.g 15 (.len false (.t 14)) 12 false,.z 16 2 12,.g 17 (.bin .sub (.t 15) (.t 16)) 12 false,.g 18 (.bin .gtr (.t 13) (.t 17)) 12 false,.o 19 12 18]) (.cond (.t 19) (.seq (.r [.m 6 (.c (.i .u32 0)),.m 7 .F]) (.ret)) (.skip))) (.seq (.r [.m 8 (.c (.i .u32 0))]) (.seq (.seq (.r [.n 20 2,.m 21 (.k 0)]) (.blk 0 (.loop (.seq (.r [.s 22 21 20]) (.seq (.cond (.t 22) (.skip) (.exit 0)) (.seq (.blk 1 (.seq (.r [.n 23 21,.n 9 23]) (.r [.n 24 8,.n 25 0,.n 26 1,.n 27 9,.b 28 .add 26 27,.i 29 1 25 28,.d 30 29,.q 31 (.cvInt .u32 (.t 30)),.n 32 9,.q 33 (.bin .mul (.k 8) (.t 32)),.b 34 .shl 31 33,.b 35 .or 24 34,.n 8 35]))) (.r [.a 36 21 1,.n 21 36]))))))) (.seq (.r [.n 37 8,.n 6 37,.m 7 .T]) (.ret)))))⟩
theorem qr1(hc:qh P f wl=true)(b:List Int)(hb:qG b)(hl:b.length<=1000000)(at':Nat)(ha:at'<=1000000):qb P f [.fz b.length (rB b),.i .i64 at',.i .i64 4] (qeb b at'):=by
 refine qb.mk hc (by simp[qx,clo,qC]) ?_;have hn:¬(at':Int)<0:=by omega
 have hw0:IntKind.wrap .i64 ((b.length:Int)-4)=(b.length:Int)-4:=qv (by omega) (by omega);unfold qeb;simp only[wl,vI,simprocAttr]
 by_cases h:at'+4<=b.length
 ·have h':¬(b.length:Int)-4<(at':Int):=by omega
  rw[if_pos h];simp +decide only[↓vS,vT,simprocAttr,hn,h',hw0];refine SL.loop (α:=Nat) (fun j=>[(0,.fz b.length (rB b)),(1,.i .i64 at'),(8,.i .u32 (leM (qY b at' j))),(20,.i .i64 4),(21,.i .i64 j)]) (fun _=>[]) (fun j=>j<=4) (fun j=>4-j) 0 [] ?_ ?_ ?_ rfl ?_ ?_
  ·simp[vw,qC,qY,leM]
  ·trivial
  ·simp
  ·exact Nat.zero_le _
  rintro j hj G ih;simp only[vI,simprocAttr]
  by_cases hlt:j<4
  ·have hlt':(j:Int)<4:=by omega
   have hjl:at'+j<b.length:=by omega
   obtain⟨c,hcx⟩:∃c,b[at'+j]?=some c:=⟨_,zzE hjl⟩;have hcb:=hb c (zzM hcx);have hw:IntKind.wrap .i64 ((j:Int)+1)=((j+1:Nat):Int):=by rw[qv (by omega) (by omega)];omega
   have hw2:IntKind.wrap .i64 ((at':Int)+(j:Int))=((at'+j:Nat):Int):=by rw[qv (by omega) (by omega)];omega
   have hw3:IntKind.wrap .i64 (8*(j:Int))=8*(j:Int):=qv (by omega) (by omega);have h8:(0:Int)<=8*(j:Int):=by omega
   have hbd:=wE (wv hb at' j);have hsl:(qY b at' j).length=j:=xm (by omega);rw[hsl] at hbd;have hor:=qe6 (q:=.u32) (by simp) (i:=j) (x:=leM (qY b at' j)) (c:=c) (by simp only[IntKind.bits];omega) hbd.1 hbd.2 hcb.1 hcb.2;have hnx:leM (qY b at' (j+1))=leM (qY b at' j)+256 ^ j*c:=by rw[qb1 hcx,qcl,hsl]
   have ih2:=ih (j+1);rw[hnx] at ih2;simp +decide only[↓vS,vT,simprocAttr,hlt',hw2,hjl,Nat.mul_one,qa5,hcx,Option.map_some,hw3,h8,hor,hw];refine ih2 (by omega) (by omega) _ _ (Wk.mk _ _ [] ?_ ?_ ?_ rfl)
   ·simp[vw,qC]
   ·trivial
   ·simp
  ·have hlt':¬(j:Int)<4:=by omega
   obtain rfl:j=4:=by omega
   clear ih;simp +decide only[↓vS,vT,simprocAttr,hlt'];simp[vZ]
 ·have h':(b.length:Int)-4<(at':Int):=by omega
  rw[if_neg h];simp +decide only[↓vS,vT,simprocAttr,hn,h',hw0];simp[vZ]
def yD(a:Nat):IFn:=⟨[.tmp 4,.tmp 5],.seq (.r [.m 4 (.c (.i .u32 0)),.m 5 .F]) (.seq (.r [.n 6 0,.n 7 1,.l 8 a [.t 6,.t 7,.k 4],.x 9 8 0,.x 10 8 1,.n 4 9,.n 5 10]) (.ret))⟩
theorem qrX{g:Nat}(hc:qh P f (yD g)=true)(hg:∀(b:List Int),qG b->b.length<=1000000->∀at':Nat,at'<=1000000->qb P g [.fz b.length (rB b),.i .i64 at',.i .i64 4] (qeb b at'))(b:List Int)(hb:qG b)(hl:b.length<=1000000)(at':Nat)(ha:at'<=1000000):qb P f [.fz b.length (rB b),.i .i64 at'] (qeb b at'):=by
 refine qb.mk hc (by simp[qx,clo,qC]) ?_;have h:=hg b hb hl at' ha;unfold qeb at h ⊢;simp only[yD,vI,simprocAttr];simp only[↓vS,vT,simprocAttr];refine h.sc ?_;split
 ·simp +decide only[↓vS,vT,simprocAttr];simp[vZ]
 ·simp +decide only[↓vS,vT,simprocAttr];simp[vZ]
structure Ins where
 code:Int
 jt:Int
 jf:Int
 k:Int
def qt(i:Ins):List AV:=[.i .u16 i.code,.i .u8 i.jt,.i .u8 i.jf,.i .u32 i.k]
theorem jP(i:Ins):(qt i).length=4:=rfl
def qcb(b:List Int):Ins:=⟨leM (qY b 0 2),b.getD 2 0,b.getD 3 0,leM (qY b 4 4)⟩
def qgY(P:Program)(g:Nat):Prop:=∀(b:List Int),qG b->b.length<=1000000->∀at':Nat,at'<=1000000->qb P g [.fz b.length (rB b),.i .i64 at'] (qdg b at')
def qmq(P:Program)(g:Nat):Prop:=∀(b:List Int),qG b->b.length<=1000000->∀at':Nat,at'<=1000000->qb P g [.fz b.length (rB b),.i .i64 at'] (qeb b at')
theorem getD_some{b:List Int}{j:Nat}(h:j<b.length):b[j]?=some (b.getD j 0):=by
 rw[zzE h,List.getD_eq_getElem?_getD,zzE h];rfl
def yq(a b:Nat):IFn:=⟨[.cell 2 4 true,.tmp 3],.seq (.r [.q 2 (.alloc [.i .u16 0,.i .u8 0,.i .u8 0,.i .u32 0]),.m 3 (.k 0)]) (.seq (.seq (.r [.n 8 0,.e 9 8,.w 10 .neq 9 8]) (.cond (.t 10) (.seq (.r [.q 11 (.build [.i .u16 0,.i .u8 0,.i .u8 0,.i .u32 0] []),.u (.store 4 (.t 2) (.t 11)),.m 3 (.k 20)]) (.ret)) (.skip))) (.seq (.r [.n 13 0,.l 14 a [.t 13,.k 0],.n 12 14,.x 15 12 0,.x 16 12 1,.n 4 15,.n 5 16]) (.seq (.r [.n 18 0,.l 19 b [.t 18,.k 4],.n 17 19,.x 20 17 0,.x 21 17 1,.n 6 20,.n 7 21]) (.seq (.reg true [.n 22 4,.n 23 0,.q 24 (.iAddrS 1 (.t 23) (.k 2)),.d 25 24,.n 26 0,.q 27 (.iAddrS 1 (.t 26) (.k 3)),.d 28 27,.n 29 6,.q 30 (.build [.i .u16 0,.i .u8 0,.i .u8 0,.i .u32 0] [(0,1,(.t 22)),(1,1,(.t 25)),(2,1,(.t 28)),(3,1,(.t 29))]),.u (.store 4 (.t 2) (.t 30)),.m 3 (.k 0)]) (.ret)))))⟩
theorem qly{g1 g2:Nat}(hc:qh P f (yq g1 g2)=true)(h1:qgY P g1)(h2:qmq P g2)(b:List Int)(hb:qG b)(hl:b.length=8):qb P f [.fz 8 (rB b)] (.tup [.agg (qt (qcb b)),.i .i64 0]):=by
 have e1:=h1 b hb (by omega) 0 (by decide);have e2:=h2 b hb (by omega) 4 (by decide);rw[hl] at e1 e2;have g1':qdg b 0 = .tup [.i .u16 (leM (qY b 0 2)),.b true]:=if_pos (by omega);have g2':qeb b 4 = .tup [.i .u32 (leM (qY b 4 4)),.b true]:=if_pos (by omega);rw[g1'] at e1;rw[g2'] at e2;have b2:=getD_some (b:=b) (j:=2) (by omega);have b3:=getD_some (b:=b) (j:=3) (by omega);refine qb.mk hc (by simp[qx,clo,qC]) ?_;simp only[yq,vI,simprocAttr];simp +decide only[↓vS,vT,simprocAttr];refine e1.sc ?_;simp +decide only[↓vS,vT,simprocAttr];refine e2.sc ?_;simp +decide only[↓vS,vT,simprocAttr];refine xK ?_;simp +decide only[↓vS,vT,simprocAttr,qa5,b2,b3,Option.map_some,Nat.mul_one];simp[vZ,qt,qcb]
def rP(p:List Ins):List AV:=p.flatMap qt
theorem ZO(p:List Ins):(rP p).length=p.length*4:=xY jP p
theorem qn(p:List Ins):qx (rP p)=true:=yY (fun _=>rfl)
theorem qok(p q:List Ins):rP (p++q)=rP p++rP q:=List.flatMap_append
theorem qol(i:Ins):rP [i]=qt i:=by simp[rP]
def kU(b:List Int)(n:Nat):List Ins:=(List.range n).map fun i=>qcb (qY b (8*i) 8)
def qhM(b:List Int):List Ins:=kU b (b.length / 8)
theorem qbF(b:List Int)(n:Nat):kU b (n+1)=kU b n++[qcb (qY b (8*n) 8)]:=by unfold kU;rw[List.range_succ,List.map_append];rfl
theorem yk(b:List Int)(n:Nat):(kU b n).length=n:=by simp[kU]
def xL(a:Nat):IFn:=⟨[.tmp 4],.seq (.r [.q 2 (.box (.t 0)),.q 3 (.box (.t 1)),.m 4 (.c (.nilf))]) (.seq (.seq (.r [.d 5 3,.w 6 .lss 5 1]) (.cond (.t 6) (.r [.q 7 (.no),.u (.no)]) (.skip))) (.seq (.r [.q 8 (.mkF a [] [.t 2,.t 3]),.n 4 8]) (.ret)))⟩
theorem qq8{g:Nat}(hc:qh P f (xL g)=true)(b:List Int):qb P f [.fz b.length (rB b),.i .i64 8] (.fn g [] [.pf [.fz b.length (rB b)] 0,.pf [.i .i64 8] 0]):=by
 refine qb.mk hc (by simp[qx,clo,qC]) ?_;simp only[xL,vI,simprocAttr];simp +decide only[↓vS,vT,simprocAttr];simp[vZ,vP,Tr.get_set,zC (qC b)]
def xu:IFn:=⟨[],.seq (.r [.m 4 (.k 0)]) (.blk 0 (.loop (.seq (.seq (.r [.n 6 4,.d 7 1,.e 8 7,.s 9 6 8]) (.cond (.t 9) (.skip) (.exit 0))) (.seq (.blk 1 (.seq (.reg true [.d 13 2,.d 14 1,.n 15 4,.q 16 (.slcS 1 (.t 14) (some (.t 15)) none none),.e 17 16,.q 18 (.min (.t 13) (.t 17)),.n 5 18]) (.seq (.r [.n 19 0,.d 20 1,.n 21 4,.n 22 4,.n 23 5,.b 24 .add 22 23,.n 25 4,.n 26 5,.b 27 .add 25 26,.q 28 (.slcS 1 (.t 20) (some (.t 21)) (some (.t 24)) (some (.t 27))),⟨(some 29),.callV (.t 19) [.t 28],none⟩,.q 30 (.un .not (.t 29))]) (.cond (.t 30) (.ret) (.skip))))) (.r [.n 10 4,.d 11 2,.b 12 .add 10 11,.n 4 12])))))⟩
def jE(a b:Nat):ICode:=.seq (.r [.d 29 4,.n 2 29,.m 3 (.k 0)]) (.ret)
def Qq(a b:Nat):IFn:=⟨[.tmp 2,.tmp 3],.seq (.r [.m 2 .N,.m 3 (.k 0)]) (.seq (.blk 0 (.seq (.r [.n 9 0,.e 10 9,.w 11 .rem 10 8,.w 12 .neq 11 0,.n 8 12]) (.cond (.t 8) (.seq (.r [.m 2 .N,.m 3 (.k 20)]) (.ret)) (.seq (.r [.n 14 0,.e 15 14,.w 16 .gtr 15 32768,.n 13 16]) (.cond (.t 13) (.seq (.r [.m 2 .N,.m 3 (.k 3)]) (.ret)) (.skip)))))) (.seq (.r [.q 4 (.alloc [.nils])]) (.seq (.seq (.r [.n 17 0,.l 18 a [.t 17,.k 8]]) (.blk 1 (.rangeF 0 (.t 18) [19] (.r [.n 5 19]) (.blk 2 (.seq (.r [.n 21 5,.l 22 b [.t 21],.n 20 22,.x 23 20 0,.x 24 20 1,.q 6 (.alloc [.i .u16 0,.i .u8 0,.i .u8 0,.i .u32 0]),.u (.store 4 (.t 6) (.t 23)),.n 7 24]) (.r [.d 25 4,.v 26 4 6,.q 27 (.buildS 1 [.i .u16 0,.i .u8 0,.i .u8 0,.i .u32 0] [(0,4,(.t 26))]),.q 28 (.app 4 8 true (.t 25) (.t 27)),.u (.store 1 (.t 4) (.t 28))])))))) (.cut (jE a b)))))⟩
theorem qot{h:Hp}{esz n a c:Nat}{q q2 q3:IntKind}{cs:List AV}{k:AV->Prop}(h1:a<c)(h2:c<=n)(h3:c*esz<=cs.length):slK esz (some (.i q (a:Int))) (some (.i q2 (c:Int))) (some (.i q3 (c:Int))) (.fz n cs) h k↔evA (.fz (c-a) ((cs.drop (a*esz)).take ((c-a)*esz))) k:=by
 have hne:Nat.beq c a=false:=by
  cases hb:Nat.beq c a with
  | false=>rfl
  | true=>have:=Nat.eq_of_beq_eq_true hb;omega
 have e1:a*esz<=cs.length:=Nat.le_trans (Nat.mul_le_mul_right _ (by omega)) h3
 have e2:(c-a)*esz<=(cs.drop (a*esz)).length:=by
  rw[List.length_drop,Nat.sub_mul];omega
 have hac:a<=c:=by omega
 simp only[slK,qeE,qeC];show (ifK (c<=n) (ifK (c<=c) (ifK (a<=c) _)))↔_;simp only[ifK,h2,hac,Nat.le_refl,true_and,Option.isSome_some,hne,Bool.true_and,Bool.false_eq_true,if_false];show (a*esz<=cs.length∧(c-a)*esz<=(cs.drop (a*esz)).length∧_)↔_;simp only[e1,e2,true_and];exact Iff.rfl
theorem qa9{r:Loop}(h:r.state = .ready)(h2:r.pending=none):rdy r=r:=by cases r;simp_all [rdy]
def Zr(g:Nat)(b:List Int):List (Nat×AV):=[(4,.ptr 0 0),(18,.fn g [] [.pf [.fz b.length (rB b)] 0,.pf [.i .i64 8] 0])]
theorem qiC(g1 g2 n:Nat)(p:List Ins)(hn:p.length=n){t':Tr AV}{h':Hp}(hw:Wk 0 t' h' (mkT [(4,.ptr 0 0)]) (mkH 0 [.cells 0 true false [.own 1 n],.cells 4 true true (rP p)])) :
  S P 0 (jE g1 g2) (jd [.tmp 2,.tmp 3] fun v' h'=>Frz h' v' (.tup [.fz n (rP p),.i .i64 0])) t' h':=by
 refine S.weak hw (qr ?_);simp only[jE,vI,simprocAttr];simp only[↓vS,vT,simprocAttr];simp[vZ,vP,Tr.get_set,zC (qn p)];intro h0;have:p=[]:=List.eq_nil_of_length_eq_zero (by omega);rw[this];rfl
theorem qm4{g1 g2 g3:Nat}(hc:qh P f (Qq g1 g2)=true)(h1:∀b:List Int,qb P g1 [.fz b.length (rB b),.i .i64 8] (.fn g3 [] [.pf [.fz b.length (rB b)] 0,.pf [.i .i64 8] 0]))(hc3:qh P g3 xu=true)
  (h2:∀b:List Int,qG b->b.length=8->qb P g2 [.fz 8 (rB b)] (.tup [.agg (qt (qcb b)),.i .i64 0])) (b:List Int) (hb:qG b) (hl:b.length<=1000000) :
  qb P f [.fz b.length (rB b)] (if b.length % 8≠0 then .tup [.fz 0 [],.i .i64 20] else if 32768<b.length then .tup [.fz 0 [],.i .i64 3] else .tup [.fz (b.length / 8) (rP (qhM b)),.i .i64 0]):=by
 refine qb.mk hc (by simp[qx,clo,qC]) ?_;have ht:(b.length:Int).tmod 8=((b.length % 8:Nat):Int):=by rw[Int.tmod_eq_emod_of_nonneg (by omega)];omega
 have h80:(8:Int)≠0:=by decide
 simp only[Qq,vI,simprocAttr]
 by_cases h8:b.length % 8≠0
 ·have h8':¬((b.length % 8:Nat):Int)=0:=by omega
  rw[if_pos h8];simp +decide only[↓vS,vT,simprocAttr,↓jJ h80,ht,h8'];simp[vZ]
 rw[if_neg h8];have h8':((b.length % 8:Nat):Int)=0:=by omega
 by_cases hbig:32768<b.length
 ·have hbig':(32768:Int)<b.length:=by omega
  rw[if_pos hbig];simp +decide only[↓vS,vT,simprocAttr,↓jJ h80,ht,h8',hbig'];simp[vZ]
 rw[if_neg hbig];have hbig':¬(32768:Int)<b.length:=by omega
 simp +decide only[↓vS,vT,simprocAttr,↓jJ h80,ht,h8',hbig'];refine (h1 b).sc ?_;simp +decide only[↓vS,vT,simprocAttr];refine S.weak (Wk.mk (Zr g3 b) [.cells 0 true false [.nils]] [0] ?_ ?_ ?_ rfl) ?_
 ·simp[vw,Zr,qC]
 ·simp[vw]
 ·simp
 refine S.rangeF (by simp[yI]) (by simp[Zr]) ⟨rfl,rfl⟩ ?_;refine qc9.2 ⟨.fn g3 [] [.pf [.fz b.length (rB b)] 0,.pf [.i .i64 8] 0],by simp[Zr,mkT,Tr.get_set],?_⟩
 refine⟨ya hc3,fun r0 hr0 hp0 hlo=>SC.mk hc3 ?_⟩
 have hid:=qa9 hr0 hp0;show S P 2 _ _ (xz [.yl 1,.pf [.fz b.length (rB b)] 0,.pf [.i .i64 8] 0] 0 .leaf) ⟨2,0,(Tr.leaf.set 0 (.cells 0 true false [.nils])).set 1 (.map (qZ r0 (Zr g3 b)))⟩;refine qr ?_;simp only[xu,vI,simprocAttr];simp only[↓vS,vT,simprocAttr];refine SL.loopn (α:=Nat) (fun j=>[(0,.yl 1),(1,.pf [.fz b.length (rB b)] 0),(2,.pf [.i .i64 8] 0),(4,.i .i64 ((8*j:Nat):Int))]) (fun j=>[.cells 0 true false [.own 2 j],.map (qZ r0 (Zr g3 b)),.cells 4 true true (rP (kU b j))]) (fun j=>j<=b.length / 8) (fun j=>b.length / 8-j) 0 [0,1,99] ?_ ?_ ?_ rfl ?_ ?_ ?_ ?_
 ·simp[vw,qC]
 ·simp[vw,Zr,qC,kU,rP,xd,xg,zK,za]
  done
 ·simp
 ·simp
 ·intro x hx;have:x=0∨x=1:=by omega
  rcases this with rfl|rfl<;>rfl
 ·exact Nat.zero_le _
 rintro j hj G ih;simp only[vI,simprocAttr]
 by_cases hlt:8*j<b.length
 ·have hjl:8*j+8<=b.length:=by omega
  have hw:IntKind.wrap .i64 (((8*j:Nat):Int)+8)=((8*(j+1):Nat):Int):=by rw[qv (by omega) (by omega)];omega
  have hw2:IntKind.wrap .i64 (((8*j:Nat):Int)+8)=((8*j+8:Nat):Int):=by rw[qv (by omega) (by omega)];omega
  have e1:8*j<=b.length:=by omega
  have e2:8*j+(b.length-8*j)<=(rB b).length:=by rw[wc];omega
  have e4:8*j<=8*j+8:=by omega
  have e5:8*j+8-8*j=8:=by omega
  have e6:8*j+8<=(rB b).length:=by rw[wc];omega
  have e3:¬((b.length-8*j:Nat):Int)<8:=by omega
  have e7:8*j<8*j+8:=by omega
  have e8:(8*j+8)*1<=(rB b).length:=by rw[wc];omega
  simp +decide only[↓vS,vT,simprocAttr,hlt];refine xK ?_;simp +decide only[↓vS,vT,simprocAttr,e1,e2,Nat.mul_one,qa6,e3,hw2,↓qot e7 hjl e8,e5];have hsl:(qY b (8*j) 8).length=8:=xm hjl;have hdec:=h2 (qY b (8*j) 8) (wv hb _ _) hsl;have hnx:=qbF b j;have hil:=yk b j;have ih2:=ih (j+1);rw[hnx] at ih2;change SY P 1 [.fz 8 (rB (qY b (8*j) 8))] _ _;generalize kU b j=A at hil ih2 ⊢;generalize qcb (qY b (8*j) 8)=x at hdec ih2;have hlr:(rP A).length=j*4:=by rw[ZO,hil]
  have hr1:j+1<=qe:=by simp only[qe];omega
  have hr2:(j+1)*8<=qe:=by simp only[qe];omega
  have hap:rP A++qt x=rP (A++[x]):=by rw[qok,qol]
  refine SY.mk (r:=r0) (ts:=Zr g3 b) (ps:=[19]) (by simp[Tr.get_set]) hr0 hlo (Nat.zero_le _) (by show 1<3;decide) rfl ?_;rw[show mkT (Zr g3 b)=(Tr.leaf.set 18 (.fn g3 [] [.pf [.fz b.length (rB b)] 0,.pf [.i .i64 8] 0])).set 4 (.ptr 0 0) from rfl]
  refine qr ?_;simp only[qa3,vI,simprocAttr];simp only[↓vS,vT,simprocAttr];refine⟨Zr g3 b,by simp[Tr.get_set],?_⟩
  refine qr ?_;simp only[zj,vI,simprocAttr];simp only[↓vS,vT,simprocAttr];refine hdec.sc ?_;simp only[qt] at hap;simp +decide only[↓vS,vT,simprocAttr,qt,hr1,hr2,hlr,hap];refine⟨bsy r0,Zr g3 b,by simp[Tr.get_set],?_⟩
  rw[qan,hid];simp only[zj];simp +decide only[↓vS,vT,simprocAttr,hw];refine ih2 (by omega) (by omega) _ _ (Wk.mkn _ _ [0,1,5] ?_ ?_ ?_ rfl ?_ ?_)
  ·simp[vw,qC]
  ·simp[vw,Zr,qC,xd,xg,zK,za,qc,qn]
  ·simp
  ·simp
  ·intro x hx;have:x=0∨x=1:=by omega
   rcases this with rfl|rfl<;>rfl
 ·clear ih;obtain rfl:j=b.length / 8:=by omega
  simp +decide only[↓vS,vT,simprocAttr,hlt];refine⟨r0,Zr g3 b,by simp[Tr.get_set],by rw[hr0];decide,?_⟩
  rw[hp0];simp only[zj];simp only[↓vS,vT,simprocAttr];refine qiC g1 g2 (b.length / 8) (qhM b) (yk b _) (Wk.mk _ _ [0,2] ?_ ?_ ?_ rfl)
  ·simp[vw,Zr,mkT]
  ·simp[vw,qc,qn,qhM]
  ·simp
theorem qew(x:BitVec 16):IntKind.wrap .u16 (x.toNat:Int)=(x.toNat:Int):=by
 have:=x.isLt;show ((x.toNat:Int)) % 65536=_;omega
theorem y5(x:BitVec 16):BitVec.ofInt 16 (x.toNat:Int)=x:=by simp
theorem qrq(x y:BitVec 16):orI .u16 (x.toNat:Int) (y.toNat:Int)=((x ||| y).toNat:Int):=by
 show IntKind.wrap .u16 ((BitVec.ofInt 16 (x.toNat:Int) ||| BitVec.ofInt 16 (y.toNat:Int)).toNat:Int)=_
 rw[y5,y5,qew]
theorem qlh(x y:BitVec 16):Z9 .u16 (x.toNat:Int) (y.toNat:Int)=((x &&& y).toNat:Int):=by
 show IntKind.wrap .u16 ((BitVec.ofInt 16 (x.toNat:Int) &&& BitVec.ofInt 16 (y.toNat:Int)).toNat:Int)=_;rw[y5,y5,qew]
theorem qlo(x y:BitVec 16):qbs .u16 (x.toNat:Int) (y.toNat:Int)=((x &&& ~~~ y).toNat:Int):=by
 show IntKind.wrap .u16 ((BitVec.ofInt 16 (x.toNat:Int) &&& ~~~ (BitVec.ofInt 16 (y.toNat:Int))).toNat:Int)=_;rw[y5,y5,qew]
def cell(k:Int):BitVec 16:=1#16 <<< k.toNat
theorem qiU{k:Int}(h0:0<=k)(h:k<16):qdM .u16 1 k=((cell k).toNat:Int):=by
 have key:∀n:Fin 16,qdM .u16 1 (n.val:Int)=((cell (n.val:Int)).toNat:Int):=by decide
 have:=key ⟨k.toNat,by omega⟩
 simpa[Int.toNat_of_nonneg h0] using this
structure InsOk (i:Ins):Prop where
 c0:0<=i.code
 c1:i.code<=65535
 t0:0<=i.jt
 t1:i.jt<=255
 f0:0<=i.jf
 f1:i.jf<=255
 k0:0<=i.k
 k1:i.k<=4294967295
def cOf(P:Program)(g:Nat):Prop:=∀n,qb P g [.i .u16 n] (.i .u8 (qm n))
def wrM(i:Ins):BitVec 16:=if qm i.code=2∧i.k<16 then cell i.k else 0#16
def rdM(i:Ins):BitVec 16:=if (i.code=96∨i.code=97)∧i.k<16 then cell i.k else 0#16
def kM(a:Nat):IFn:=⟨[.tmp 2],.seq (.r [.q 1 (.box (.t 0)),.m 2 (.c (.i .u16 0))]) (.seq (.seq (.r [.f 3 0 1,.d 4 3,.l 5 a [.t 4],.q 6 (.bin .neq (.t 5) (.c (.i .u8 2))),.n 7 6,.h 8 3 1 7 false,.j 9 8 7 false,.g 10 (.bin .geq (.t 9) (.c (.i .u32 16))) 7 false,.o 11 7 10]) (.cond (.t 11) (.seq (.r [.m 2 (.c (.i .u16 0))]) (.ret)) (.skip))) (.seq (.r [.f 12 3 1,.d 13 12,.q 14 (.bin .shl (.c (.i .u16 1)) (.t 13)),.n 2 14]) (.ret)))⟩
theorem qlS{g:Nat}(hc:qh P f (kM g)=true)(hg:cOf P g)(i:Ins)(hi:InsOk i):qb P f [.agg (qt i)] (.i .u16 ((wrM i).toNat:Int)):=by
 refine qb.mk hc (by rfl) ?_;have h0:=hi.k0;unfold wrM;simp only[kM,qt,vI,simprocAttr];simp +decide only[↓vS,vT,simprocAttr];refine (hg _).sc ?_
 by_cases h2:qm i.code=2
 ·by_cases hk:i.k<16
  ·have hk':¬16<=i.k:=by omega
   rw[if_pos ⟨h2,hk⟩];simp +decide only[↓vS,vT,simprocAttr,h2,hk,hk',h0,qiU h0 hk];simp[vZ]
  ·have hk':16<=i.k:=by omega
   rw[if_neg (fun h=>hk h.2)]
   simp +decide only[↓vS,vT,simprocAttr,h2,hk,hk'];simp[vZ]
 ·rw[if_neg (fun h=>h2 h.1)]
  simp +decide only[↓vS,vT,simprocAttr,h2];simp[vZ]
def yp:IFn:=⟨[.tmp 2],.seq (.r [.q 1 (.box (.t 0)),.m 2 (.c (.i .u16 0))]) (.seq (.seq (.r [.f 3 0 1,.d 4 3,.q 5 (.bin .neq (.t 4) (.c (.i .u16 96))),.n 6 5,.h 7 0 1 6 true,.j 8 7 6 true,.g 9 (.bin .neq (.t 8) (.c (.i .u16 97))) 6 true,.p 10 6 9,.n 11 10,.h 12 3 1 11 false,.j 13 12 11 false,.g 14 (.bin .geq (.t 13) (.c (.i .u32 16))) 11 false,.o 15 11 14]) (.cond (.t 15) (.seq (.r [.m 2 (.c (.i .u16 0))]) (.ret)) (.skip))) (.seq (.r [.f 16 3 1,.d 17 16,.q 18 (.bin .shl (.c (.i .u16 1)) (.t 17)),.n 2 18]) (.ret)))⟩
theorem qoo(hc:qh P f yp=true)(i:Ins)(hi:InsOk i):qb P f [.agg (qt i)] (.i .u16 ((rdM i).toNat:Int)):=by
 refine qb.mk hc (by rfl) ?_;have h0:=hi.k0;unfold rdM;simp only[yp,qt,vI,simprocAttr]
 by_cases hk:i.k<16
 ·have hk':¬16<=i.k:=by omega
  by_cases h1:i.code=96
  ·rw[if_pos ⟨.inl h1,hk⟩];simp +decide only[↓vS,vT,simprocAttr,h1,hk',h0,qiU h0 hk];simp[vZ]
  ·by_cases h2:i.code=97
   ·rw[if_pos ⟨.inr h2,hk⟩];simp +decide only[↓vS,vT,simprocAttr,h2,hk',h0,qiU h0 hk];simp[vZ]
   ·rw[if_neg (fun h=>h.1.elim h1 h2)]
    simp +decide only[↓vS,vT,simprocAttr,h1,h2];simp[vZ]
 ·have hk':16<=i.k:=by omega
  rw[if_neg (fun h=>hk h.2)]
  by_cases h1:i.code=96
  ·simp +decide only[↓vS,vT,simprocAttr,h1,hk'];simp[vZ]
  ·by_cases h2:i.code=97
   ·simp +decide only[↓vS,vT,simprocAttr,h2,hk'];simp[vZ]
   ·simp +decide only[↓vS,vT,simprocAttr,h1,h2];simp[vZ]
def rW(s:List (BitVec 16)):List AV:=s.map fun x=>.i .u16 (x.toNat:Int)
def rTt(r:List Bool):List AV:=r.map .b
theorem qom{s:List (BitVec 16)}:(rW s).length=s.length:=by simp[rW]
theorem qkW{s:List Bool}:(rTt s).length=s.length:=by simp[rTt]
theorem qV{s:List (BitVec 16)}:qx (rW s)=true:=k9 fun _=>rfl
theorem qM{s:List Bool}:qx (rTt s)=true:=k9 fun _=>rfl
theorem qcs{s:List (BitVec 16)}{j:Nat}:(rW s)[j]?=(s[j]?).map fun x=>.i .u16 (x.toNat:Int):=by simp[rW]
theorem qam{s:List Bool}{j:Nat}:(rTt s)[j]?=(s[j]?).map .b:=by simp[rTt]
theorem qeZ{α:Type}{F:α->AV}{L:List α}{j:Nat}(h:j<L.length)(x:α):(L.map F).take j++(F x::(L.map F).drop (j+1))=(L.set j x).map F:=by
 rw[← List.map_take,← List.map_drop,← List.map_cons,← List.map_append,List.set_eq_take_append_cons_drop,if_pos h]
theorem qon{s:List (BitVec 16)}{j:Nat}(h:j<s.length)(x:BitVec 16):(rW s).take j++(.i .u16 (x.toNat:Int)::(rW s).drop (j+1))=rW (s.set j x):=qeZ h x
theorem qkX{s:List Bool}{j:Nat}(h:j<s.length)(x:Bool):(rTt s).take j++(.b x::(rTt s).drop (j+1))=rTt (s.set j x):=qeZ h x
def jy(s:List (BitVec 16))(r:List Bool)(j:Nat)(x:BitVec 16):List (BitVec 16):=s.set j (if r.getD j false=true then s.getD j 0 &&& x else x)
def yb(nv:List AV)(s:List (BitVec 16))(r:List Bool):List Blk:=[.cells 0 true false (rW s),.cells 0 true false (rTt r),.cells 0 true false [.sl 0 0 s.length s.length false],.cells 0 true false [.sl 1 0 s.length s.length false]]
def kL:IFn:=⟨[],.seq (.seq (.r [.d 6 2,.n 7 0,.i 8 1 6 7,.d 9 8,.q 10 (.un .not (.t 9))]) (.cond (.t 10) (.r [.d 11 3,.n 12 0,.i 13 1 11 12,.u (.store 1 (.t 13) (.c (.i .u16 65535)))]) (.skip))) (.seq (.r [.d 14 2,.n 15 0,.i 16 1 14 15,.u (.store 1 (.t 16) .T)]) (.r [.d 17 3,.n 18 0,.i 19 1 17 18,.d 20 19,.n 21 1,.b 22 .and 20 21,.i 23 1 17 18,.u (.store 1 (.t 23) (.t 22))]))⟩
theorem qpL(hc:qh P f kL=true)(s:List (BitVec 16))(r:List Bool)(hr:r.length=s.length)(j:Nat)(hj:j<s.length)(x:BitVec 16) :
  Upd P f [.i .i64 j,.i .u16 (x.toNat:Int),.ptr 3 0,.ptr 2 0] (yb [] s r) (.tup []) (yb [] (jy s r j x) (r.set j true)):=by
 refine Upd.mk hc (by simp[xo,bnd,yb]) (by simp[yb]) ?_;have hjr:j<r.length:=by omega
 obtain⟨y,hy⟩:∃y,s[j]?=some y:=⟨_,zzE hj⟩;obtain⟨b,hb⟩:∃b,r[j]?=some b:=⟨_,zzE hjr⟩;have hl1:j+1<=(rTt r).length:=by rw[qkW];omega
 have hl2:∀s':List (BitVec 16),s'.length=s.length->j+1<=(rW s').length:=fun s' h=>by rw[qom];omega
 have hb1:∀y:Bool,List.take j (rTt r)++(AV.b y::List.drop (j+1) (rTt r))=rTt (r.set j y):=fun y=>qkX hjr y
 have hb2:∀(s':List (BitVec 16)) (y:BitVec 16),s'.length=s.length->List.take j (rW s')++(AV.i .u16 (y.toNat:Int)::List.drop (j+1) (rW s'))=rW (s'.set j y):=fun s' y h=>qon (by omega) y
 have hc0:=hl2 s rfl;have hc1:=hb2 s (y &&& x) rfl;have hd0:=hl2 (s.set j 65535#16) (by simp);have hd1:=hb2 s 65535#16 rfl;have hd2:=hb2 (s.set j 65535#16) x (by simp);rw[show (((65535#16).toNat:Nat):Int)=65535 from rfl] at hd1
 have hy2:(s.set j 65535#16)[j]?=some 65535#16:=by rw[List.getElem?_set_self (by omega)]
 have hand:Z9 .u16 65535 (x.toNat:Int)=(x.toNat:Int):=by
  rw[show (65535:Int)=((65535#16).toNat:Int) from rfl,qlh,show (65535#16:BitVec 16)=BitVec.allOnes 16 from rfl,BitVec.allOnes_and]
 have ht3:(65535#16).toNat=65535:=rfl;simp only[kL,yb,jy,List.getD_eq_getElem?_getD,hy,hb,Option.getD_some,vI,simprocAttr];cases b with
 | true =>
  simp +decide only[↓vS,vT,simprocAttr,Nat.mul_one,qcs,qam,hy,hb,Option.map_some,hl1,hb1,hc0,hc1,qlh,hj];intro _;refine⟨[0,1,2,3],?_⟩;simp[vw,qc,qV,qM];decide
 | false =>
  simp +decide only[↓vS,vT,simprocAttr,Nat.mul_one,qcs,qam,hy,hb,Option.map_some,hl1,hb1,hc0,hd0,hd1,hy2,hand,hd2,hj];intro _;refine⟨[0,1,2,3],?_⟩;simp[vw,qc,qV,qM];decide
def rNt(l:List Nat):List AV:=l.map fun n:Nat=>.i .i64 (n:Int)
theorem qcr{l:List Nat}:(rNt l).length=l.length:=by simp[rNt]
theorem qH{l:List Nat}:qx (rNt l)=true:=k9 fun _=>rfl
theorem qkU{l:List Nat}{j:Nat}:(rNt l)[j]?=(l[j]?).map fun n:Nat=>.i .i64 (n:Int):=by simp[rNt]
theorem qfc{l m:List Nat}:rNt l++rNt m=rNt (l++m):=by simp[rNt]
def qbo(i:Ins)(x:BitVec 16)(at':Nat)(l:List Nat):List Nat:=if rdM i &&& ~~~ x=0#16 then l else l++[at']
def vb(a:Nat):IFn:=⟨[],.seq (.r [.d 6 2,.n 7 0,.i 8 4 6 7,.v 9 4 8,.l 10 a [.t 9],.n 11 1,.b 12 .andNot 10 11,.q 13 (.bin .neq (.t 12) (.c (.i .u16 0)))]) (.cond (.t 13) (.r [.d 14 3,.n 15 0,.q 16 (.buildS 1 [.i .i64 0] [(0,1,(.t 15))]),.q 17 (.app 1 8 true (.t 14) (.t 16)),.u (.store 1 (.t 3) (.t 17))]) (.skip))⟩
theorem qpc{g:Nat}(hc:qh P f (vb g)=true)(hg:∀i,InsOk i->qb P g [.agg (qt i)] (.i .u16 ((rdM i).toNat:Int)))(p:List Ins)(hp:p.length<=4096)(l:List Nat)(hl:l.length<=4096)(j:Nat)(i:Ins)(hj:p[j]?=some i)(hi:InsOk i)(x:BitVec 16) :
  Upd P f [.i .i64 j,.i .u16 (x.toNat:Int),.ptr 0 0,.ptr 1 0] [.cells 0 true false [.fz p.length (rP p)],.cells 0 true false [.own 2 l.length],.cells 1 true true (rNt l)] (.tup [])
   [.cells 0 true false [.fz p.length (rP p)],.cells 0 true false [.own 3 (qbo i x j l).length],.dead,.cells 1 true true (rNt (qbo i x j l))]:=by
 refine Upd.mkd hc (by simp[xo,bnd,ze (qn p)]) (by simp) ?_
 have hjl:j<p.length:=(zzS.1 hj).1;have hel:=zP (f:=qt) (m:=4) jP hj;rw[show p.flatMap qt=rP p from rfl] at hel
 have h4:j*4+4<=(rP p).length:=by rw[ZO];omega
 have hr1:l.length+1<=qe:=by simp only[qe];omega
 have hr2:(l.length+1)*8<=qe:=by simp only[qe];omega
 have hap:rNt l++[.i .i64 (j:Int)]=rNt (l++[j]):=by rw[← qfc];rfl
 have hll:(rNt l).length=l.length:=qcr;simp only[vb,vI,simprocAttr];simp +decide only[↓vS,vT,simprocAttr,hjl,hel,h4];refine (hg i hi).sc ?_;unfold qbo
 by_cases h0:rdM i &&& ~~~ x=0#16
 ·have h0':(((rdM i &&& ~~~ x).toNat:Nat):Int)=0:=by rw[h0];rfl
  rw[if_pos h0];simp +decide only[↓vS,vT,simprocAttr,qlo,h0'];intro _;refine⟨[0,1,2,2],?_⟩;simp[vw,qc,qn,qH,yI,rl];intro b hb;have:b=0∨b=1∨b=2:=by omega
  rcases this with rfl|rfl|rfl<;>simp
 ·have h0':¬(((rdM i &&& ~~~ x).toNat:Nat):Int)=0:=fun h=>h0 (by
   have:(rdM i &&& ~~~ x).toNat=0:=by omega
   exact BitVec.eq_of_toNat_eq this)
  rw[if_neg h0];simp +decide only[↓vS,vT,simprocAttr,qlo,h0',Nat.mul_one,hr1,hr2,hll,hap];intro _;refine⟨[0,1,2,4],?_⟩;simp[vw,qc,qn,qH,yI,rl];intro b hb;have:b=0∨b=1∨b=2:=by omega
  rcases this with rfl|rfl|rfl<;>simp
def qu:IFn:=⟨[.tmp 2],.seq (.r [.m 2 .N]) (.seq (.seq (.r [.n 6 0,.e 7 6,.w 8 .lss 7 2]) (.cond (.t 8) (.seq (.r [.n 9 0,.n 2 9]) (.ret)) (.skip))) (.seq (.seq (.r [.m 3 (.k 1)]) (.blk 0 (.loop (.seq (.seq (.r [.n 10 3,.n 11 0,.e 12 11,.s 13 10 12]) (.cond (.t 13) (.skip) (.exit 0))) (.seq (.blk 1 (.seq (.reg true [.n 16 0,.n 17 3,.i 18 1 16 17,.d 19 18,.n 20 0,.n 21 3,.w 22 .sub 21 1,.i 23 1 20 22,.d 24 23,.b 25 .eql 19 24]) (.cond (.t 25) (.seq (.r [.n 26 0,.n 27 3,.q 28 (.slcS 1 (.t 26) (some (.t 27)) none none),.n 4 28]) (.seq (.seq (.r [.m 5 (.k 1)]) (.blk 2 (.loop (.seq (.seq (.r [.n 29 5,.n 30 4,.e 31 30,.s 32 29 31]) (.cond (.t 32) (.skip) (.exit 2))) (.seq (.blk 3 (.seq (.reg true [.n 35 4,.n 36 5,.i 37 1 35 36,.d 38 37,.n 39 4,.n 40 5,.w 41 .sub 40 1,.i 42 1 39 41,.d 43 42,.b 44 .neq 38 43]) (.cond (.t 44) (.seq (.r [.n 45 0,.n 46 3,.n 47 4,.n 48 5,.i 49 1 47 48,.d 50 49,.i 51 1 45 46,.u (.store 1 (.t 51) (.t 50))]) (.r [.n 52 3,.a 53 52 1,.n 3 53])) (.skip)))) (.r [.n 33 5,.a 34 33 1,.n 5 34])))))) (.seq (.r [.n 54 0,.n 55 3,.q 56 (.slcS 1 (.t 54) (some (.t 55)) none none),.u (.clear [.i .i64 0] (.t 56))]) (.seq (.r [.n 57 0,.n 58 3,.q 59 (.slcS 1 (.t 57) none (some (.t 58)) none),.n 2 59]) (.ret))))) (.skip)))) (.r [.n 14 3,.a 15 14 1,.n 3 15])))))) (.seq (.r [.n 60 0,.n 2 60]) (.ret))))⟩
theorem qhg(hc:qh P f qu=true):qb P f [.nils] .nils:=by
 refine qb.mk hc rfl ?_;simp only[qu,vI,simprocAttr];simp +decide only[↓vS,vT,simprocAttr];simp[vZ]
theorem qc3(hc:qh P f qu=true)(x:Int):Upd P f [.sl 0 0 1 1 false] [.cells 0 true false [.i .i64 x]] (.sl 0 0 1 1 false) [.cells 0 true false [.i .i64 x]]:=by
 refine Upd.mk hc (by simp[xo,bnd]) (by simp) ?_;simp only[qu,vI,simprocAttr];simp +decide only[↓vS,vT,simprocAttr];intro _;refine⟨[0],?_⟩;simp[vw,qc]
theorem qc4(hc:qh P f qu=true)(x y:Int):Upd P f [.sl 0 0 2 2 false] [.cells 0 true false [.i .i64 x,.i .i64 y]] (.sl 0 0 (if x=y then 1 else 2) 2 false) [.cells 0 true false [.i .i64 x,.i .i64 (if x=y then 0 else y)]]:=by
 refine Upd.mk hc (by simp[xo,bnd]) (by simp) ?_;simp only[qu,vI,simprocAttr];simp +decide only[↓vS,vT,simprocAttr];refine SL.loopn (α:=Nat) (fun k=>[(0,.sl 0 0 2 2 false),(3,.i .i64 (k:Int))]) (fun _=>[.cells 0 true false [.i .i64 x,.i .i64 y]]) (fun k=>k=1∨k=2∧x≠y) (fun k=>2-k) 1 [0] ?_ ?_ ?_ rfl ?_ ?_ ?_ ?_
 ·simp[vw]
 ·simp[vw]
 ·simp
 ·simp
 ·intro b hb;obtain rfl:b=0:=by omega
  rfl
 ·exact .inl rfl
 rintro k hk G ih;have hw0:IntKind.wrap .i64 0=0:=rfl;have hw1:IntKind.wrap .i64 1=1:=rfl;have hw2:IntKind.wrap .i64 2=2:=rfl;simp only[vI,simprocAttr];rcases hk with rfl|⟨rfl,hne⟩
 ·by_cases h:x=y
  ·subst h;simp +decide only[↓vS,vT,simprocAttr];refine xK ?_;simp +decide only[↓vS,vT,simprocAttr,hw0];refine SL.loopn (α:=Unit) (fun _=>[(0,.sl 0 0 2 2 false),(3,.i .i64 1),(4,.sl 0 1 1 1 false),(5,.i .i64 1)]) (fun _=>[.cells 0 true false [.i .i64 x,.i .i64 x]]) (fun _=>True) (fun _=>0) () [0] ?_ ?_ ?_ rfl ?_ ?_ ?_ ?_
   ·simp[vw]
   ·simp[vw]
   ·simp
   ·simp
   ·intro b hb;obtain rfl:b=0:=by omega
    rfl
   ·trivial
   rintro _ _ G2 _;simp only[vI,simprocAttr];simp +decide only[↓vS,vT,simprocAttr];intro _;refine⟨[0],?_⟩;simp[vw,qc]
  ·have h':¬y=x:=fun e=>h e.symm
   simp +decide only[↓vS,vT,simprocAttr];refine xK ?_;simp +decide only[↓vS,vT,simprocAttr,h',hw0,hw1,hw2];refine ih 2 (.inr ⟨rfl,h⟩) (by decide) _ _ (Wk.mkn _ _ [0] ?_ ?_ ?_ rfl ?_ ?_)
   ·simp[vw]
   ·simp[vw]
   ·simp
   ·simp
   ·intro b hb;obtain rfl:b=0:=by omega
    rfl
 ·simp +decide only[↓vS,vT,simprocAttr,hne,if_false];intro _;refine⟨[0],?_⟩;simp[vw,qc,hne]
def loM(i:Ins):Int:=if i.jf<i.jt then i.jf else i.jt
def hiM(i:Ins):Int:=if i.jt<i.jf then i.jf else i.jt
def j6(i:Ins)(at':Nat):List Nat :=
 if qm i.code=0∨qm i.code=5 then []
 else if qm i.code=4 then (if i.code=5 then [at'+1+i.k.toNat] else if loM i=hiM i then [at'+1+(loM i).toNat] else [at'+1+(loM i).toNat,at'+1+(hiM i).toNat])
 else [at'+1]
def goM(n:Nat)(x:BitVec 16):List Nat->List (BitVec 16)×List Bool->List (BitVec 16)×List Bool
 | [],st=>st
 | m::L,st=>if m<n then goM n x L (jy st.1 st.2 m x,st.2.set m true) else st
theorem qhI{n:Nat}{x:BitVec 16}{m:Nat}{L:List Nat}{st:List (BitVec 16)×List Bool}:goM n x (m::L) st=if m<n then goM n x L (jy st.1 st.2 m x,st.2.set m true) else st:=rfl
theorem qeT{n:Nat}{x:BitVec 16}:∀(L:List Nat) (st:List (BitVec 16)×List Bool),(goM n x L st).1.length=st.1.length∧(goM n x L st).2.length=st.2.length
 | [],_=>⟨rfl,rfl⟩
 | m::L,st=>by
  unfold goM;split
  ·have:=qeT (n:=n) (x:=x) L (jy st.1 st.2 m x,st.2.set m true);simpa[jy] using this
  ·exact⟨rfl,rfl⟩
def wkB(p:List Ins)(gc:Nat)(l:List Nat)(st:List (BitVec 16)×List Bool):List Blk:=[.cells 0 true false [.fz p.length (rP p)],.cells 0 true false [.own 2 l.length],.cells 1 true true (rNt l),.cells 0 true false (rW st.1),.cells 0 true false (rTt st.2),.cells 0 true false [.sl 3 0 st.1.length st.1.length false],.cells 0 true false [.sl 4 0 st.1.length st.1.length false],.cells 0 true false [.fn gc [] [.ptr 6 0,.ptr 5 0]]]
def wI(p:List Ins)(gc:Nat)(l:List Nat)(st:List (BitVec 16)×List Bool)(j:Nat)(i:Ins):List Blk:=wkB p gc l st++[.cells 0 true false [.i .i64 (j:Int)],.cells 0 true false (qt i)]
def v6(gv:Nat):AV:=.fn gv [] [.ptr 0 0,.ptr 1 0]
def ZB(gw:Nat)(p:List Ins)(j:Nat)(i:Ins):AV:=.fn gw [] [.pf (qt i) 0,.pf [.i .i64 (j:Int)] 0,.pf [.i .i64 (p.length:Int)] 0]
def wT(gv:Nat)(p:List Ins)(j:Nat):List (Nat×AV):=[(0,.fz p.length (rP p)),(1,v6 gv),(4,.ptr 5 0),(5,.ptr 6 0),(6,.ptr 7 0),(20,.fz p.length (rP p)),(21,.i .i64 (p.length:Int)),(22,.i .i64 (j:Int))]
def wTr(gv gw:Nat)(p:List Ins)(j:Nat)(i:Ins):List (Nat×AV):=wT gv p j++[(7,.ptr 8 0),(8,.ptr 9 0),(47,ZB gw p j i)]
def zm(a b:Nat):ICode:=.blk 1 (.loop (.seq (.r [.s 52 51 50]) (.seq (.cond (.t 52) (.skip) (.exit 1)) (.seq (.blk 2 (.seq (.r [.i 53 1 49 51,.d 54 53,.n 7 54]) (.seq (.r [.n 55 7,.d 56 3,.b 57 .geq 55 56,.n 58 57,.z 59 0 58,.z 60 7 58,⟨(some 61),.callV (.t 59) [.t 60],(some (58,false))⟩,.g 62 (.un .not (.t 61)) 58 false,.o 63 58 62]) (.cond (.t 63) (.ret) (.skip))))) (.r [.a 64 51 1,.n 51 64])))))
def xi(a b:Nat):IFn:=⟨[],.seq (.r [.m 5 .N]) (.seq (.seq (.r [.f 8 0 1,.d 9 8,.l 10 a [.t 9]]) (.blk 0 (.seq (.seq (.r [.q 15 (.bin .eql (.t 10) (.c (.i .u8 0))),.n 14 15]) (.cond (.t 14) (.skip) (.r [.q 16 (.bin .eql (.t 10) (.c (.i .u8 5))),.n 14 16]))) (.cond (.t 14) (.skip) (.seq (.r [.q 18 (.bin .eql (.t 10) (.c (.i .u8 4))),.n 17 18]) (.cond (.t 17) (.seq (.r [.d 19 2,.a 20 19 1,.f 21 1 1,.d 22 21,.f 23 2 1,.d 24 23,.q 25 (.min (.t 22) (.t 24)),.q 26 (.cvInt .i64 (.t 25)),.b 27 .add 20 26,.d 28 2,.a 29 28 1,.f 30 1 1,.d 31 30,.f 32 2 1,.d 33 32,.q 34 (.max (.t 31) (.t 33)),.q 35 (.cvInt .i64 (.t 34)),.b 36 .add 29 35,.q 37 (.buildS 2 [.i .i64 0] [(0,1,(.t 27)),(1,1,(.t 36))]),.n 5 37]) (.seq (.r [.f 38 0 1,.d 39 38,.q 40 (.bin .eql (.t 39) (.c (.i .u16 5)))]) (.cond (.t 40) (.r [.d 41 2,.a 42 41 1,.f 43 3 1,.d 44 43,.q 45 (.cvInt .i64 (.t 44)),.b 46 .add 42 45,.q 47 (.buildS 1 [.i .i64 0] [(0,1,(.t 46))]),.n 5 47]) (.skip)))) (.r [.d 11 2,.a 12 11 1,.q 13 (.buildS 1 [.i .i64 0] [(0,1,(.t 12))]),.n 5 13]))))))) (.seq (.r [.n 48 5,.l 49 b [.t 48],.e 50 49,.m 51 (.k 0)]) (.cut (zm a b))))⟩
def jj(a b c:Nat):ICode:=.r [.a 59 22 1,.n 22 59]
def ji(a b c:Nat):ICode:=.seq (.r [.v 43 4 8,.d 44 7,.n 45 0,.e 46 45,.l 47 b [.t 43,.t 44,.t 46]]) (.blk 2 (.rangeF 0 (.t 47) [48] (.r [.n 9 48]) (.blk 3 (.reg true [.d 49 6,.n 50 9,.d 51 4,.d 52 7,.i 53 1 51 52,.d 54 53,.v 55 4 8,.l 56 c [.t 55],.b 57 .or 54 56,⟨(some 58),.callVW (.t 49) [.t 50,.t 57],none⟩]))))
def jh(a b c:Nat):ICode:=.seq (.seq (.r [.d 31 5,.d 32 7,.i 33 1 31 32,.d 34 33,.q 35 (.un .not (.t 34))]) (.cond (.t 35) (.exit 1) (.skip))) (.seq (.reg true [.n 36 1,.d 37 7,.d 38 4,.d 39 7,.i 40 1 38 39,.d 41 40,⟨(some 42),.callVW (.t 36) [.t 37,.t 41],none⟩]) (.cut (ji a b c)))
def Qm(a b c:Nat):IFn:=⟨[],.seq (.seq (.r [.n 10 0,.e 11 10,.w 12 .gtr 11 4096]) (.cond (.t 12) (.ret) (.skip))) (.seq (.reg true [.n 13 0,.e 14 13,.q 15 (.mkS 1 2 [.i .u16 0] (.t 14) (.t 14)),.n 16 0,.e 17 16,.q 18 (.mkS 1 1 [.b false] (.t 17) (.t 17)),.q 4 (.alloc [.nils]),.q 5 (.alloc [.nils]),.u (.storeD 1 (.t 4) (.t 15) []),.u (.store 1 (.t 5) (.t 18))]) (.seq (.r [.q 19 (.mkF a [] [.t 5,.t 4]),.q 6 (.alloc [.nilf]),.u (.store 1 (.t 6) (.t 19))]) (.seq (.r [.n 20 0,.e 21 20,.m 22 (.k 0)]) (.blk 0 (.loop (.seq (.r [.s 23 22 21]) (.seq (.cond (.t 23) (.skip) (.exit 0)) (.seq (.blk 1 (.seq (.r [.n 24 22,.i 25 4 20 22,.v 26 4 25,.q 7 (.alloc [.i .i64 0]),.q 8 (.alloc [.i .u16 0,.i .u8 0,.i .u8 0,.i .u32 0]),.u (.store 1 (.t 7) (.t 24)),.u (.store 4 (.t 8) (.t 26))]) (.seq (.seq (.r [.d 27 7,.w 28 .eql 27 0]) (.cond (.t 28) (.r [.d 29 6,⟨(some 30),.callVW (.t 29) [.k 0,(.c (.i .u16 0))],none⟩]) (.skip))) (.cut (jh a b c))))) (.cut (jj a b c))))))))))⟩
def aW:ICode:=.r [.n 9 48]
def bW(fw:Nat):ICode:=.blk 3 (.reg true [.d 49 6,.n 50 9,.d 51 4,.d 52 7,.i 53 1 51 52,.d 54 53,.v 55 4 8,.l 56 fw [.t 55],.b 57 .or 54 56,⟨(some 58),.callVW (.t 49) [.t 50,.t 57],none⟩])
structure RecOk (P:Program) (r0:Loop) (ps:List Nat) (ai bi:ICode):Prop where
 st:r0.state = .ready
 pd:r0.pending=none
 ok:LoopOk P r0 ps ai bi
theorem qhc{i:Ins}:List.take 4 (List.drop 0 (qt i))=qt i:=rfl
theorem qln{i:Ins}:4<=(qt i).length:=Nat.le_refl 4
def qeF(P:Program)(gc:Nat):Prop:=∀(s:List (BitVec 16)) (r:List Bool),r.length=s.length->∀j:Nat,j<s.length->∀x:BitVec 16,
  Upd P gc [.i .i64 j,.i .u16 (x.toNat:Int),.ptr 3 0,.ptr 2 0] (yb [] s r) (.tup []) (yb [] (jy s r j x) (r.set j true))
def cWr(P:Program)(g:Nat):Prop:=∀i,InsOk i->qb P g [.agg (qt i)] (.i .u16 ((wrM i).toNat:Int))
theorem qao{g1 g2 g3 gc gv gw:Nat}(hcome:qeF P gc)(hwr:cWr P g3)(p:List Ins)(hp:p.length<=4096)(i:Ins)(hi:InsOk i)(j:Nat)(l:List Nat)
  (r0:Loop) (hr:RecOk P r0 [48] aW (bW g3)) (L:List Nat) (ex:List AV) (hex:qx ex=true) (cp:Nat) (hcp:L.length<=cp) (hL:∀n ∈ L,j<n) (hL4:L.length<=4)
  (x:BitVec 16) (s0:List (BitVec 16)×List Bool) (hs1:s0.1.length=p.length) (hs2:s0.2.length=p.length) (hx:s0.1[j]?=some x) (Qf:AV->Hp->Prop)
  (hQ:Qf (.tup []) (mkH 0 (wI p gc l (goM p.length (x ||| wrM i) L s0) j i++[.map (qZ r0 (wTr gv gw p j i)),.cells 0 true false (rNt L++ex)])))
  {t':Tr AV} {h':Hp} (hw:Wk 11 t' h' (mkT [(0,.yl 10),(3,.pf [.i .i64 (p.length:Int)] 0),(49,.sl 11 0 L.length cp false),(50,.i .i64 (L.length:Int)),(51,.i .i64 0)]) (mkH 0 (wI p gc l s0 j i++[.map (qZ r0 (wTr gv gw p j i)),.cells 0 true false (rNt L++ex)]))) :
  S P 11 (zm g1 g2) (jd [] Qf) t' h':=by
 refine S.weak hw (qr ?_);have hid:=qa9 hr.st hr.pd;simp only[zm,wI,wkB,List.cons_append,List.nil_append,vI,simprocAttr];simp +decide only[↓vS,vT,simprocAttr]
 refine SL.loopn (α:=Nat×(List (BitVec 16)×List Bool)) (fun a=>[(0,.yl 10),(3,.pf [.i .i64 (p.length:Int)] 0),(49,.sl 11 0 L.length cp false),(50,.i .i64 (L.length:Int)),(51,.i .i64 (a.1:Int))])
  (fun a=>wI p gc l a.2 j i++[.map (qZ r0 (wTr gv gw p j i)),.cells 0 true false (rNt L++ex)])
  (fun a=>a.1<=L.length∧a.2.1.length=p.length∧a.2.2.length=p.length∧a.2.1[j]?=some x∧goM p.length (x ||| wrM i) (L.drop a.1) a.2=goM p.length (x ||| wrM i) L s0) (fun a=>L.length-a.1) (0,s0) [0,1,2,3,4,5,6,7,8,9,10,11] ?_ ?_ ?_ rfl ?_ ?_ ?_ ?_
 ·simp[vw,wI,wkB]
 ·simp[vw,wI,wkB,wTr,wT,v6,ZB,qn,qH,qV,qM,qc,hex,qt,xd,xg,zK,za,zA]
 ·simp
 ·simp[wI,wkB]
 ·intro b hb;have:b=0∨b=1∨b=2∨b=3∨b=4∨b=5∨b=6∨b=7∨b=8∨b=9∨b=10:=by omega
  rcases this with rfl|rfl|rfl|rfl|rfl|rfl|rfl|rfl|rfl|rfl|rfl<;>rfl
 ·exact⟨Nat.zero_le _,hs1,hs2,hx,rfl⟩
 rintro⟨q,s,r⟩ ⟨hq,hl1,hl2,hxq,hgo⟩ G ih;simp only at hq hl1 hl2 hxq hgo;simp only[wI,wkB,List.cons_append,List.nil_append,vI,simprocAttr]
 by_cases hlt:q<L.length
 ·obtain⟨n,hn⟩:∃n,L[q]?=some n:=⟨_,zzE hlt⟩;have hjn:=hL n (zzM hn);have hgn:(rNt L++ex)[q]?=some (.i .i64 (n:Int)):=by rw[List.getElem?_append_left (by rw[qcr];exact hlt),qkU,hn];rfl
  have hqc:q<cp:=by omega
  simp +decide only[↓vS,vT,simprocAttr,hlt,Nat.mul_one,hgn]
  have hdr:L.drop q=n::L.drop (q+1):=by
   obtain⟨hh,he⟩:=zzS.1 hn;rw[List.drop_eq_getElem_cons hh,he]
  rw[hdr,qhI] at hgo
  by_cases hnl:n<p.length
  ·have hnl':¬(p.length:Int)<=(n:Int):=by omega
   rw[if_pos hnl] at hgo;have hw1:IntKind.wrap .i64 ((q:Int)+1)=((q+1:Nat):Int):=by rw[qv (by omega) (by omega)];omega
   have hjs:j<p.length:=hl1 ▸ (zzS.1 hxq).1;have hcm:=hcome s r (by omega) n (by omega) (x ||| wrM i)
   have hln:(jy s r n (x ||| wrM i)).length=p.length:=by simp[jy,hl1]
   have hxn:(jy s r n (x ||| wrM i))[j]?=some x:=by unfold jy;rw[List.getElem?_set_ne (by omega)];exact hxq
   have hln2:(r.set n true).length=p.length:=by simp[hl2]
   have ih2:=ih (q+1,jy s r n (x ||| wrM i),r.set n true) ⟨hlt,hln,hln2,hxn,hgo⟩ (by simp only;omega)
   simp +decide only[↓vS,vT,simprocAttr,hnl'];refine SY.mk (r:=r0) (ts:=wTr gv gw p j i) (ps:=[48]) (ai:=aW) (bi:=bW g3) (by simp[Tr.get_set]) hr.st hr.ok (Nat.zero_le _) (by show 10<12;decide) rfl ?_;rw[show mkT (wTr gv gw p j i)=mkT [(0,.fz p.length (rP p)),(1,v6 gv),(4,.ptr 5 0),(5,.ptr 6 0),(6,.ptr 7 0),(20,.fz p.length (rP p)),(21,.i .i64 (p.length:Int)),(22,.i .i64 (j:Int)),(7,.ptr 8 0),(8,.ptr 9 0),(47,ZB gw p j i)] from rfl]
   refine qr ?_;simp only[aW,qa3,vI,simprocAttr];simp only[↓vS,vT,simprocAttr];refine⟨wTr gv gw p j i,by simp[Tr.get_set],?_⟩
   refine qr ?_;simp only[zj,bW,vI,simprocAttr];simp +decide only[↓vS,vT,simprocAttr];refine xK ?_;simp +decide only[↓vS,vT,simprocAttr,hl1,hjs,Nat.mul_one,qcs,hxq,Option.map_some,qhc,qln];refine (hwr i hi).pc ?_;simp +decide only[↓vS,vT,simprocAttr,qrq];refine hcm.pc (vs:=[.i .i64 n,.i .u16 ((x ||| wrM i).toNat:Int),.ptr 3 0,.ptr 2 0]) [3,4,5,6] (Lent.of (by decide) ?_) ?_
   ·simp[vL,vw,yb,ze qV,qB qV,ze qM,qB qM,hl1]
   simp only[vK,simprocAttr,yb,qB qV,qB qM];simp +decide only[↓vS,vT,simprocAttr];refine⟨bsy r0,wTr gv gw p j i,by simp[Tr.get_set],?_⟩
   rw[qan,hid];simp only[zj];simp +decide only[↓vS,vT,simprocAttr,hw1,hnl'];refine ih2 _ _ (Wk.mkn _ _ [0,1,2,3,4,5,6,7,8,9,10,11] ?_ ?_ ?_ rfl ?_ ?_)
   ·simp[vw,wI,wkB]
   ·simp[vw,wI,wkB,wTr,wT,v6,ZB,qn,qH,qV,qM,qc,hex,qt,xd,xg,zK,za,zA]
   ·simp
   ·simp[wI,wkB]
   ·intro b hb;have:b=0∨b=1∨b=2∨b=3∨b=4∨b=5∨b=6∨b=7∨b=8∨b=9∨b=10:=by omega
    rcases this with rfl|rfl|rfl|rfl|rfl|rfl|rfl|rfl|rfl|rfl|rfl<;>rfl
  ·have hnl':(p.length:Int)<=(n:Int):=by omega
   rw[if_neg hnl] at hgo;simp +decide only[↓vS,vT,simprocAttr,hnl'];rw[← hgo] at hQ;exact hQ
 ·obtain rfl:q=L.length:=by omega
  simp +decide only[↓vS,vT,simprocAttr,hlt];rw[List.drop_length] at hgo;rw[← hgo] at hQ;exact hQ
def Qn(a:Nat):IFn:=⟨[.tmp 6],.seq (.r [.q 3 (.box (.t 0)),.q 4 (.box (.t 1)),.q 5 (.box (.t 2)),.m 6 (.c (.nilf))]) (.seq (.r [.q 7 (.mkF a [] [.t 3,.t 4,.t 5]),.n 6 7]) (.ret))⟩
theorem qqZ{g:Nat}(hc:qh P f (Qn g)=true)(i:Ins)(j n:Nat):qb P f [.agg (qt i),.i .i64 (j:Int),.i .i64 (n:Int)] (.fn g [] [.pf (qt i) 0,.pf [.i .i64 (j:Int)] 0,.pf [.i .i64 (n:Int)] 0]):=by
 refine qb.mk hc rfl ?_;simp only[Qn,vI,simprocAttr];simp +decide only[↓vS,vT,simprocAttr];simp[vZ,vP,Tr.get_set,qt]
theorem qcp{x:Nat}:rNt [x]=[.i .i64 (x:Int)]:=rfl
theorem qcq{x y:Nat}:rNt [x,y]=[.i .i64 (x:Int),.i .i64 (y:Int)]:=rfl
theorem qi7{g1 g2:Nat}(g3 gv gw gc:Nat)(p:List Ins)(i:Ins)(j:Nat)(l:List Nat)(r0:Loop)(s0:List (BitVec 16)×List Bool)(Qf:AV->Hp->Prop)
  (hQ:Qf (.tup []) (mkH 0 (wI p gc l s0 j i++[.map (qZ r0 (wTr gv gw p j i))])))
  {t':Tr AV} {h':Hp} (hw:Wk 11 t' h' (mkT [(50,.i .i64 0),(51,.i .i64 0)]) (mkH 0 (wI p gc l s0 j i++[.map (qZ r0 (wTr gv gw p j i))]))) :
  S P 11 (zm g1 g2) (jd [] Qf) t' h':=by
 refine S.weak hw (qr ?_);simp only[zm,wI,wkB,List.cons_append,List.nil_append,vI,simprocAttr];simp +decide only[↓vS,vT,simprocAttr];refine SL.loopn (α:=Unit) (fun _=>[(50,.i .i64 0),(51,.i .i64 0)]) (fun _=>wI p gc l s0 j i++[.map (qZ r0 (wTr gv gw p j i))]) (fun _=>True) (fun _=>0) () [0,1,2,3,4,5,6,7,8,9,10] ?_ ?_ ?_ rfl ?_ ?_ ?_ ?_
 ·simp[vw,wI,wkB]
 ·simp[vw,wI,wkB,wTr,wT,v6,ZB,qn,qH,qV,qM,qc,qt,xd,xg,zK,za,zA]
 ·simp
 ·simp[wI,wkB]
 ·intro b hb;have:b=0∨b=1∨b=2∨b=3∨b=4∨b=5∨b=6∨b=7∨b=8∨b=9∨b=10:=by omega
  rcases this with rfl|rfl|rfl|rfl|rfl|rfl|rfl|rfl|rfl|rfl|rfl<;>rfl
 ·trivial
 rintro _ _ G _;simp only[wI,wkB,List.cons_append,List.nil_append,vI,simprocAttr];simp +decide only[↓vS,vT,simprocAttr];exact hQ
theorem qi6{g1 g2 g3 g4 gc gv gw:Nat}(hcw:qh P gw (xi g1 g2)=true)(hof:cOf P g1)(hcc:qh P g2 qu=true)(hcome:qeF P gc)(hwr:cWr P g3)
  (hwy:∀i (j n:Nat),qb P g4 [.agg (qt i),.i .i64 (j:Int),.i .i64 (n:Int)] (.fn gw [] [.pf (qt i) 0,.pf [.i .i64 (j:Int)] 0,.pf [.i .i64 (n:Int)] 0]))
  (p:List Ins) (hp:p.length<=4096) (i:Ins) (hi:InsOk i) (j:Nat) (hj:j<p.length) (l:List Nat)
  (x:BitVec 16) (s0:List (BitVec 16)×List Bool) (hs1:s0.1.length=p.length) (hs2:s0.2.length=p.length) (hx:s0.1[j]?=some x) (Q:X->Tr AV->Hp->Prop)
  (hQ:∀t'' h'',Wk 2 t'' h'' (mkT (wT gv p j)) (mkH 0 (wkB p gc l (goM p.length (x ||| wrM i) (j6 i j) s0)))->Q .normal t'' h'')
  {t':Tr AV} {h':Hp} (hw:Wk 2 t' h' (mkT (wT gv p j++[(7,.ptr 8 0),(8,.ptr 9 0)])) (mkH 0 (wI p gc l s0 j i))) :
  S P 2 (ji gc g4 g3) Q t' h':=by
 refine S.weak hw (qr ?_);simp only[ji,wT,wI,wkB,List.cons_append,List.nil_append,vI,simprocAttr];simp +decide only[↓vS,vT,simprocAttr,qhc,qln];refine (hwy i j p.length).sc ?_;simp +decide only[↓vS,vT,simprocAttr];refine S.weak (Wk.mkn (wTr gv gw p j i) (wI p gc l s0 j i) [0,1,2,3,4,5,6,7,8,9] ?_ ?_ ?_ rfl ?_ ?_) ?_
 ·simp[vw,wTr,wT,v6,ZB,qn,wI,wkB,qt]
 ·simp[vw,wI,wkB,qn,qH,qV,qM,qc,qt]
 ·simp
 ·simp[wI,wkB]
 ·intro b hb;have:b=0∨b=1:=by omega
  rcases this with rfl|rfl<;>rfl
 refine S.rangeF (by simp[yI,wI,wkB]) (by simp[wTr,wT]) ⟨rfl,rfl⟩ ?_;refine qc9.2 ⟨ZB gw p j i,by simp[wTr,wT,mkT,Tr.get_set],?_⟩
 refine⟨ya hcw,fun r0 hr0 hp0 hlo=>SC.mk hcw ?_⟩
 have hrec:RecOk P r0 [48] aW (bW g3):=⟨hr0,hp0,hlo⟩;have hid:=qa9 hr0 hp0;obtain⟨Qf,hQf⟩:∃Qf:AV->Hp->Prop,Qf=qjS (mkH 0 (wI p gc l s0 j i)).sz (fun e t h=>onX e (Q .normal t h) (fun i=>if i=2 then Q .normal t h else Q (.exit i) t h) (Q .ret t h)) (mkT (wTr gv gw p j i)):=⟨_,rfl⟩
 have hfin0:Qf (.tup []) (mkH 0 (wI p gc l (goM p.length (x ||| wrM i) (j6 i j) s0) j i++[.map (qZ r0 (wTr gv gw p j i))])):=by
  skip
  rw[hQf];refine⟨r0,wTr gv gw p j i,by rw[zZ];rfl,by rw[hr0];decide,?_⟩
  rw[hp0];simp only[wI,wkB,wTr,wT,List.cons_append,List.nil_append,vI,simprocAttr,zj];simp only[QW];refine hQ _ _ (Wk.mkn _ _ [0,1,2,3,4,5,6,7] ?_ ?_ ?_ rfl ?_ ?_)
  ·simp[vw,wT,v6,ZB,qn,wkB,qt]
  ·simp[vw,wkB,qn,qH,qV,qM,qc,qt]
  ·simp
  ·simp[wkB]
  ·intro b hb;have:b=0∨b=1:=by omega
   rcases this with rfl|rfl<;>rfl
 have hfin1:∀cs:List AV,Qf (.tup []) (mkH 0 (wI p gc l (goM p.length (x ||| wrM i) (j6 i j) s0) j i++[.map (qZ r0 (wTr gv gw p j i)),.cells 0 true false cs])):=by
  intro cs;rw[hQf];refine⟨r0,wTr gv gw p j i,by rw[zZ];rfl,by rw[hr0];decide,?_⟩
  rw[hp0];simp only[wI,wkB,wTr,wT,List.cons_append,List.nil_append,vI,simprocAttr,zj];simp only[QW];refine hQ _ _ (Wk.mkn _ _ [0,1,2,3,4,5,6,7] ?_ ?_ ?_ rfl ?_ ?_)
  ·simp[vw,wT,v6,ZB,qn,wkB,qt]
  ·simp[vw,wkB,qn,qH,qV,qM,qc,qt]
  ·simp
  ·simp[wkB]
  ·intro b hb;have:b=0∨b=1:=by omega
   rcases this with rfl|rfl<;>rfl
 rw[← hQf];show S P 11 (xi g1 g2).body (jd [] Qf) (xz [.yl 10,.pf (qt i) 0,.pf [.i .i64 (j:Int)] 0,.pf [.i .i64 (p.length:Int)] 0] 0 .leaf) (mkH 0 (wI p gc l s0 j i++[.map (qZ r0 (wTr gv gw p j i))]));refine qr ?_;simp only[xi,wI,wkB,qt,List.cons_append,List.nil_append,vI,simprocAttr];simp +decide only[↓vS,vT,simprocAttr];refine (hof i.code).sc ?_;simp +decide only[↓vS,vT,simprocAttr];have hj1:IntKind.wrap .i64 ((j:Int)+1)=((j+1:Nat):Int):=by rw[qv (by omega) (by omega)];omega
 have hjj:∀a:Int,0<=a->a<=4294967295->IntKind.wrap .i64 (IntKind.wrap .i64 ((j:Int)+1)+IntKind.wrap .i64 a)=((j+1+a.toNat:Nat):Int):=by
  intro a h1 h2;rw[hj1,qv (x:=a) (by omega) (by omega),qv (by omega) (by omega)];omega
 have hk:=hjj i.k hi.k0 hi.k1;have hlo0:0<=loM i∧loM i<=255:=by have:=hi.t0;have:=hi.t1;have:=hi.f0;have:=hi.f1;unfold loM;split<;>omega
 have hhi0:0<=hiM i∧hiM i<=255:=by have:=hi.t0;have:=hi.t1;have:=hi.f0;have:=hi.f1;unfold hiM;split<;>omega
 have hlo:=hjj (loM i) hlo0.1 (by omega);have hhi:=hjj (hiM i) hhi0.1 (by omega)
 by_cases hA:qm i.code=0∨qm i.code=5
 ·have hwl:j6 i j=[]:=by unfold j6;rw[if_pos hA]
  have h4:¬qm i.code=4:=by omega
  rw[hwl] at hfin0;have fin0:∀{t':Tr AV} {h':Hp},Wk 11 t' h' (mkT [(50,.i .i64 0),(51,.i .i64 0)]) (mkH 0 (wI p gc l s0 j i++[.map (qZ r0 (wTr gv gw p j i))]))->S P 11 (zm g1 g2) (jd [] Qf) t' h':=fun hw=>qi7 g3 gv gw gc p i j l r0 s0 Qf hfin0 hw
  rcases hA with hA|hA<;>(
   simp +decide only[↓vS,vT,simprocAttr,hA];refine (qhg hcc).sc ?_;simp +decide only[↓vS,vT,simprocAttr];refine fin0 (Wk.mkn _ _ [0,1,2,3,4,5,6,7,8,9,10] ?_ ?_ ?_ rfl ?_ ?_)
   ·simp[vw,wI,wkB]
   ·simp[vw,wI,wkB,wTr,wT,v6,ZB,qn,qH,qV,qM,qc,qt,xd,xg,zK,za,zA]
   ·simp
   ·simp[wI,wkB]
   ·intro b hb;have:b=0∨b=1∨b=2∨b=3∨b=4∨b=5∨b=6∨b=7∨b=8∨b=9∨b=10:=by omega
    rcases this with rfl|rfl|rfl|rfl|rfl|rfl|rfl|rfl|rfl|rfl|rfl<;>rfl)
 by_cases h4:qm i.code=4
 ·have h0:¬qm i.code=0:=fun h=>hA (.inl h)
  have h5:¬qm i.code=5:=fun h=>hA (.inr h)
  simp +decide only[↓vS,vT,simprocAttr,h4,hj1]
  by_cases hja:i.code=5
  ·have hwl:j6 i j=[j+1+i.k.toNat]:=by unfold j6;rw[if_neg hA,if_pos h4,if_pos hja]
   rw[if_pos hja];simp only[hk];refine (qc3 hcc ((j+1+i.k.toNat:Nat):Int)).sc (vs:=[.sl 0 0 1 1 false]) [12] (Lent.of (by decide) ?_) ?_
   ·simp[vL,vw]
   simp only[vK,simprocAttr];simp +decide only[↓vS,vT,simprocAttr];refine qao (gv:=gv) (gw:=gw) (gc:=gc) hcome hwr p hp i hi j l r0 hrec [j+1+i.k.toNat] [] rfl 1 (by simp) (by simp;try omega) (by simp) x s0 hs1 hs2 hx Qf (by rw[← hwl];exact hfin1 _) (Wk.mkn _ _ [0,1,2,3,4,5,6,7,8,9,10,12] ?_ ?_ ?_ rfl ?_ ?_)
   ·simp[vw,wI,wkB]
   ·simp[vw,wI,wkB,wTr,wT,v6,ZB,qn,qH,qV,qM,qc,qt,xd,xg,zK,za,zA,qcp,qcq]
   ·simp
   ·simp[wI,wkB]
   ·intro b hb;have:b=0∨b=1∨b=2∨b=3∨b=4∨b=5∨b=6∨b=7∨b=8∨b=9∨b=10:=by omega
    rcases this with rfl|rfl|rfl|rfl|rfl|rfl|rfl|rfl|rfl|rfl|rfl<;>rfl
  ·rw[if_neg hja];simp only[show (if i.jf<i.jt then i.jf else i.jt)=loM i from rfl,show (if i.jt<i.jf then i.jf else i.jt)=hiM i from rfl,hlo,hhi]
   by_cases hlh:loM i=hiM i
   ·have hwl:j6 i j=[j+1+(loM i).toNat]:=by unfold j6;rw[if_neg hA,if_pos h4,if_neg hja,if_pos hlh]
    refine (qc4 hcc ((j+1+(loM i).toNat:Nat):Int) ((j+1+(hiM i).toNat:Nat):Int)).sc (vs:=[.sl 0 0 2 2 false]) [11] (Lent.of (by decide) ?_) ?_
    ·simp[vL,vw]
    rw[hlh,if_pos rfl,if_pos rfl];rw[hlh] at hwl;simp only[vK,simprocAttr];simp +decide only[↓vS,vT,simprocAttr];refine qao (gv:=gv) (gw:=gw) (gc:=gc) hcome hwr p hp i hi j l r0 hrec [j+1+(hiM i).toNat] [.i .i64 0] rfl 2 (by simp) (by simp;try omega) (by simp) x s0 hs1 hs2 hx Qf (by rw[← hwl];exact hfin1 _) (Wk.mkn _ _ [0,1,2,3,4,5,6,7,8,9,10,11] ?_ ?_ ?_ rfl ?_ ?_)
    ·simp[vw,wI,wkB]
    ·simp[vw,wI,wkB,wTr,wT,v6,ZB,qn,qH,qV,qM,qc,qt,xd,xg,zK,za,zA,qcp,qcq]
    ·simp
    ·simp[wI,wkB]
    ·intro b hb;have:b=0∨b=1∨b=2∨b=3∨b=4∨b=5∨b=6∨b=7∨b=8∨b=9∨b=10:=by omega
     rcases this with rfl|rfl|rfl|rfl|rfl|rfl|rfl|rfl|rfl|rfl|rfl<;>rfl
   ·have hwl:j6 i j=[j+1+(loM i).toNat,j+1+(hiM i).toNat]:=by unfold j6;rw[if_neg hA,if_pos h4,if_neg hja,if_neg hlh]
    refine (qc4 hcc ((j+1+(loM i).toNat:Nat):Int) ((j+1+(hiM i).toNat:Nat):Int)).sc (vs:=[.sl 0 0 2 2 false]) [11] (Lent.of (by decide) ?_) ?_
    ·simp[vL,vw]
    rw[if_neg (by omega),if_neg (by omega)];simp only[vK,simprocAttr];simp +decide only[↓vS,vT,simprocAttr];refine qao (gv:=gv) (gw:=gw) (gc:=gc) hcome hwr p hp i hi j l r0 hrec [j+1+(loM i).toNat,j+1+(hiM i).toNat] [] rfl 2 (by simp) (by simp;try omega) (by simp) x s0 hs1 hs2 hx Qf (by rw[← hwl];exact hfin1 _) (Wk.mkn _ _ [0,1,2,3,4,5,6,7,8,9,10,11] ?_ ?_ ?_ rfl ?_ ?_)
    ·simp[vw,wI,wkB]
    ·simp[vw,wI,wkB,wTr,wT,v6,ZB,qn,qH,qV,qM,qc,qt,xd,xg,zK,za,zA,qcp,qcq]
    ·simp
    ·simp[wI,wkB]
    ·intro b hb;have:b=0∨b=1∨b=2∨b=3∨b=4∨b=5∨b=6∨b=7∨b=8∨b=9∨b=10:=by omega
     rcases this with rfl|rfl|rfl|rfl|rfl|rfl|rfl|rfl|rfl|rfl|rfl<;>rfl
 ·have h0:¬qm i.code=0:=fun h=>hA (.inl h)
  have h5:¬qm i.code=5:=fun h=>hA (.inr h)
  have hwl:j6 i j=[j+1]:=by unfold j6;rw[if_neg hA,if_neg h4]
  simp +decide only[↓vS,vT,simprocAttr,h0,h4,h5,hj1];simp only[hj1];refine (qc3 hcc ((j+1:Nat):Int)).sc (vs:=[.sl 0 0 1 1 false]) [11] (Lent.of (by decide) ?_) ?_
  ·simp[vL,vw]
  simp only[vK,simprocAttr];simp +decide only[↓vS,vT,simprocAttr];refine qao (gv:=gv) (gw:=gw) (gc:=gc) hcome hwr p hp i hi j l r0 hrec [j+1] [] rfl 1 (by simp) (by simp;try omega) (by simp) x s0 hs1 hs2 hx Qf (by rw[← hwl];exact hfin1 _) (Wk.mkn _ _ [0,1,2,3,4,5,6,7,8,9,10,11] ?_ ?_ ?_ rfl ?_ ?_)
  ·simp[vw,wI,wkB]
  ·simp[vw,wI,wkB,wTr,wT,v6,ZB,qn,qH,qV,qM,qc,qt,xd,xg,zK,za,zA,qcp,qcq]
  ·simp
  ·simp[wI,wkB]
  ·intro b hb;have:b=0∨b=1∨b=2∨b=3∨b=4∨b=5∨b=6∨b=7∨b=8∨b=9∨b=10:=by omega
   rcases this with rfl|rfl|rfl|rfl|rfl|rfl|rfl|rfl|rfl|rfl|rfl<;>rfl
abbrev WSt:=List Nat×(List (BitVec 16)×List Bool)
def j0(j:Nat)(st:List (BitVec 16)×List Bool):List (BitVec 16)×List Bool:=if j=0 then (jy st.1 st.2 0 0#16,st.2.set 0 true) else st
def stM(n j:Nat)(i:Ins)(st:WSt):WSt :=
 if (j0 j st.2).2.getD j false=true then (qbo i ((j0 j st.2).1.getD j 0#16) j st.1,goM n ((j0 j st.2).1.getD j 0#16 ||| wrM i) (j6 i j) (j0 j st.2)) else (st.1,j0 j st.2)
def wkM(n:Nat):Nat->List Ins->WSt->WSt
 | _,[],st=>st
 | j,i::L,st=>wkM n (j+1) L (stM n j i st)
def kq(p:List Ins):List Nat:=(wkM p.length 0 p ([],(List.replicate p.length 0#16,List.replicate p.length false))).1
theorem qiX{j:Nat}{st:List (BitVec 16)×List Bool}:(j0 j st).1.length=st.1.length∧(j0 j st).2.length=st.2.length:=by
 unfold j0;split<;>simp[jy]
theorem qi5{i:Ins}{x:BitVec 16}{j:Nat}{l:List Nat}:(qbo i x j l).length<=l.length+1:=by
 unfold qbo;split<;>simp
def qpJ(P:Program)(gv:Nat):Prop:=∀p:List Ins,p.length<=4096->∀l:List Nat,l.length<=4096->∀(j:Nat) (i:Ins),p[j]?=some i->InsOk i->∀x:BitVec 16,
  Upd P gv [.i .i64 j,.i .u16 (x.toNat:Int),.ptr 0 0,.ptr 1 0] [.cells 0 true false [.fz p.length (rP p)],.cells 0 true false [.own 2 l.length],.cells 1 true true (rNt l)] (.tup [])
   [.cells 0 true false [.fz p.length (rP p)],.cells 0 true false [.own 3 (qbo i x j l).length],.dead,.cells 1 true true (rNt (qbo i x j l))]
theorem qdS{g1 g2 g3 g4 gc gv gw:Nat}(hcw:qh P gw (xi g1 g2)=true)(hof:cOf P g1)(hcc:qh P g2 qu=true)(hcome:qeF P gc)(hwr:cWr P g3)(hvis:qpJ P gv)
  (hwy:∀i (j n:Nat),qb P g4 [.agg (qt i),.i .i64 (j:Int),.i .i64 (n:Int)] (.fn gw [] [.pf (qt i) 0,.pf [.i .i64 (j:Int)] 0,.pf [.i .i64 (n:Int)] 0]))
  (p:List Ins) (hp:p.length<=4096) (i:Ins) (hi:InsOk i) (j:Nat) (hpi:p[j]?=some i) (l:List Nat) (hl:l.length<=4096)
  (s:List (BitVec 16)) (r:List Bool) (hs1:s.length=p.length) (hs2:r.length=p.length) (Q:X->Tr AV->Hp->Prop)
  (hQ:∀e t'' h'',(e = .normal∨e = .exit 1)->Wk 2 t'' h'' (mkT (wT gv p j)) (mkH 0 (if r.getD j false=true then wkB p gc (qbo i (s.getD j 0#16) j l) (goM p.length (s.getD j 0#16 ||| wrM i) (j6 i j) (s,r)) else wkB p gc l (s,r)))->Q e t'' h'')
  {t':Tr AV} {h':Hp} (hw:Wk 2 t' h' (mkT (wT gv p j++[(7,.ptr 8 0),(8,.ptr 9 0)])) (mkH 0 (wI p gc l (s,r) j i))) :
  S P 2 (jh gc g4 g3) Q t' h':=by
 refine S.weak hw (qr ?_);have hlt:j<p.length:=(zzS.1 hpi).1;obtain⟨x,hx⟩:∃x,s[j]?=some x:=⟨_,zzE (by omega)⟩;obtain⟨b,hb⟩:∃b,r[j]?=some b:=⟨_,zzE (by omega)⟩;simp only[List.getD_eq_getElem?_getD,hx,hb,Option.getD_some] at hQ;simp only[jh,wT,wI,wkB,List.cons_append,List.nil_append,vI,simprocAttr];cases b with
 | false =>
  rw[if_neg (by simp)] at hQ;simp +decide only[↓vS,vT,simprocAttr,hs1,hlt,Nat.mul_one,qam,hb,Option.map_some];refine hQ _ _ _ (.inr rfl) (Wk.mkn _ _ [0,1,2,3,4,5,6,7] ?_ ?_ ?_ rfl ?_ ?_)
  ·simp[vw,wT,v6,qn,wkB]
  ·simp[vw,wkB,qn,qH,qV,qM,qc,hs1]
  ·simp
  ·simp[wkB]
  ·intro b hb;have:b=0∨b=1:=by omega
   rcases this with rfl|rfl<;>rfl
 | true =>
  rw[if_pos rfl] at hQ;simp +decide only[↓vS,vT,simprocAttr,hs1,hlt,Nat.mul_one,qam,hb,Option.map_some];refine xK ?_;simp +decide only[↓vS,vT,simprocAttr,hs1,hlt,Nat.mul_one,qcs,hx,Option.map_some,v6];refine (hvis p hp l hl j i hpi hi x).pc (vs:=[.i .i64 j,.i .u16 (x.toNat:Int),.ptr 0 0,.ptr 1 0]) [0,1,2] (Lent.of (by decide) ?_) ?_
  ·simp[vL,vw,ze (qn p),qB (qn p),ze qH,qB qH]
  simp only[vK,simprocAttr,qB (qn p),qB qH];simp +decide only[↓vS,vT,simprocAttr];refine qi6 hcw hof hcc hcome hwr hwy p hp i hi j hlt (qbo i x j l) x (s,r) hs1 hs2 hx Q (fun t'' h'' hw=>hQ _ _ _ (.inl rfl) hw) (Wk.mkn _ _ [0,1,10,3,4,5,6,7,8,9] ?_ ?_ ?_ rfl ?_ ?_)
  ·simp[vw,wT,v6,qn,wI,wkB]
  ·simp[vw,wI,wkB,qn,qH,qV,qM,qc,hs1,qt]
  ·simp
  ·simp[wI,wkB]
  ·intro b hb;have:b=0∨b=1:=by omega
   rcases this with rfl|rfl<;>rfl
def kK(a b:Nat):IFn:=⟨[.tmp 2],.seq (.r [.q 1 (.box (.t 0)),.m 2 .N]) (.seq (.r [.q 3 (.alloc [.nils])]) (.seq (.r [.d 4 1,.q 5 (.mkF a [] [.t 1,.t 3]),.l 6 b [.t 4,.t 5]]) (.seq (.r [.d 7 3,.n 2 7]) (.ret))))⟩
theorem qlN{g0 g1 g2 g3 g4 gc gv gw:Nat}(hc:qh P f (kK gv g0)=true)(hck:qh P g0 (Qm gc g4 g3)=true)
  (hcw:qh P gw (xi g1 g2)=true) (hof:cOf P g1) (hcc:qh P g2 qu=true) (hcome:qeF P gc) (hwr:cWr P g3) (hvis:qpJ P gv)
  (hwy:∀i (j n:Nat),qb P g4 [.agg (qt i),.i .i64 (j:Int),.i .i64 (n:Int)] (.fn gw [] [.pf (qt i) 0,.pf [.i .i64 (j:Int)] 0,.pf [.i .i64 (n:Int)] 0]))
  (p:List Ins) (hp:p.length<=4096) (hi:∀i ∈ p,InsOk i):qb P f [.fz p.length (rP p)] (.fz (kq p).length (rNt (kq p))):=by
 refine qb.mk hc (by simp[qx,clo,qn]) ?_;simp only[kK,vI,simprocAttr];simp +decide only[↓vS,vT,simprocAttr];refine SC.mk hck (qr ?_);have hp':¬4096<(p.length:Int):=by omega
 have hr1:p.length<=qe:=by simp only[qe];omega
 have hr2:2*p.length<=qe:=by simp only[qe];omega
 have hr3:1*p.length<=qe:=by simp only[qe];omega
 have hf1:(List.replicate p.length [AV.i .u16 0]).flatten=rW (List.replicate p.length 0#16):=by
  generalize p.length=n
  induction n with
  | zero=>rfl
  | succ n ih=>rw[List.replicate_succ,List.replicate_succ,List.flatten_cons,ih];rfl
 have hf2:(List.replicate p.length [AV.b false]).flatten=rTt (List.replicate p.length false):=by
  generalize p.length=n
  induction n with
  | zero=>rfl
  | succ n ih=>rw[List.replicate_succ,List.replicate_succ,List.flatten_cons,ih];rfl
 simp only[Qm,vI,simprocAttr];simp +decide only[↓vS,vT,simprocAttr,hp'];refine xK ?_;simp +decide only[↓vS,vT,simprocAttr,hr1,hr2,hr3,hf1,hf2]
 refine SL.loopn (α:=Nat×WSt) (fun a=>wT gv p a.1) (fun a=>wkB p gc a.2.1 a.2.2)
  (fun a=>a.1<=p.length∧a.2.1.length<=a.1∧a.2.2.1.length=p.length∧a.2.2.2.length=p.length∧wkM p.length a.1 (p.drop a.1) a.2=wkM p.length 0 p ([],(List.replicate p.length 0#16,List.replicate p.length false))) (fun a=>p.length-a.1) (0,([],(List.replicate p.length 0#16,List.replicate p.length false))) [0,1,99,2,3,4,5,6] ?_ ?_ ?_ rfl ?_ ?_ ?_ ?_
 ·simp[vw,wT,v6,qn,wkB]
 ·simp[vw,wkB,qn,qH,qV,qM,qc]
 ·simp
 ·simp[wkB]
 ·intro b hb;have:b=0∨b=1:=by omega
  rcases this with rfl|rfl<;>rfl
 ·exact⟨Nat.zero_le _,Nat.le_refl _,by simp,by simp,rfl⟩
 rintro⟨j,l,s,r⟩ ⟨hj,hl,hs1,hs2,hgo⟩ G ih;simp only at hj hl hs1 hs2 hgo;simp only[wT,wkB,List.cons_append,List.nil_append,vI,simprocAttr]
 by_cases hlt:j<p.length
 ·obtain⟨i,hpi⟩:∃i,p[j]?=some i:=⟨_,zzE hlt⟩;have hii:=hi i (zzM hpi);have hel:=zP (f:=qt) (m:=4) jP hpi;rw[show p.flatMap qt=rP p from rfl] at hel
  have h4:j*4+4<=(rP p).length:=by rw[ZO];omega
  have hdr:p.drop j=i::p.drop (j+1):=by
   obtain⟨hh,he⟩:=zzS.1 hpi;rw[List.drop_eq_getElem_cons hh,he]
  rw[hdr] at hgo;have hw1:IntKind.wrap .i64 ((j:Int)+1)=((j+1:Nat):Int):=by rw[qv (by omega) (by omega)];omega
  simp only[qt] at hel;have ih2:=ih (j+1,stM p.length j i (l,s,r));have hst:wkM p.length j (i::p.drop (j+1)) (l,s,r)=wkM p.length (j+1) (p.drop (j+1)) (stM p.length j i (l,s,r)):=rfl;rw[hst] at hgo;have hlen0:=qiX (j:=j) (st:=(s,r))
  have hI:j+1<=p.length∧(stM p.length j i (l,s,r)).1.length<=j+1∧(stM p.length j i (l,s,r)).2.1.length=p.length∧(stM p.length j i (l,s,r)).2.2.length=p.length:=by
   refine⟨hlt,?_⟩;unfold stM;split
   ·have:=qi5 (i:=i) (x:=(j0 j (s,r)).1.getD j 0#16) (j:=j) (l:=l);have h2:=qeT (n:=p.length) (x:=(j0 j (s,r)).1.getD j 0#16 ||| wrM i) (j6 i j) (j0 j (s,r))
    simp only at hlen0 ⊢;exact⟨by omega,by omega,by omega⟩
   ·simp only at hlen0 ⊢;exact⟨by omega,by omega,by omega⟩
  have ih3:=ih2 ⟨hI.1,hI.2.1,hI.2.2.1,hI.2.2.2,hgo⟩ (by simp only;omega)
  have hstM:(wkB p gc (stM p.length j i (l,s,r)).1 (stM p.length j i (l,s,r)).2)=if (j0 j (s,r)).2.getD j false=true then wkB p gc (qbo i ((j0 j (s,r)).1.getD j 0#16) j l) (goM p.length ((j0 j (s,r)).1.getD j 0#16 ||| wrM i) (j6 i j) ((j0 j (s,r)).1,(j0 j (s,r)).2)) else wkB p gc l ((j0 j (s,r)).1,(j0 j (s,r)).2):=by
   unfold stM;split<;>rfl
  clear hgo hst ih2
  by_cases hj0:j=0
  ·have hj0':decide ((j:Int)=0)=true:=by rw[hj0];rfl
   have hcm:=hcome s r (by omega) 0 (by omega) 0#16;have he1:(j0 j (s,r)).1=jy s r 0 0#16:=by unfold j0;rw[if_pos hj0]
   have he2:(j0 j (s,r)).2=r.set 0 true:=by unfold j0;rw[if_pos hj0]
   simp only[he1,he2] at hstM;have hs1':(jy s r 0 0#16).length=p.length:=by simp[jy,hs1]
   simp +decide only[↓vS,vT,simprocAttr,hlt,hel,h4,hj0'];refine hcm.sc (vs:=[.i .i64 0,.i .u16 0,.ptr 3 0,.ptr 2 0]) [3,4,5,6] (Lent.of (by decide) ?_) ?_
   ·simp[vL,vw,yb,ze qV,qB qV,ze qM,qB qM]
   simp only[vK,simprocAttr,yb,qB qV,qB qM];simp +decide only[↓vS,vT,simprocAttr];refine qdS hcw hof hcc hcome hwr hvis hwy p hp i hii j hpi l (by omega) (jy s r 0 0#16) (r.set 0 true) hs1' (by simp[hs2]) _ ?_ (Wk.mkn _ _ [0,1,2,3,4,5,6,7,8,9] ?_ ?_ ?_ rfl ?_ ?_)
   ·rintro e t'' h'' (rfl|rfl) hw2<;>(
     simp +decide only[↓vS,vT,simprocAttr];rw[← hstM] at hw2;refine S.weak hw2 (qr ?_);generalize (stM p.length j i (l,s,r))=st2 at ih3 hI;obtain⟨l2,s2,r2⟩:=st2;simp only at ih3 hI;simp only[jj,wT,wkB,List.cons_append,List.nil_append,vI,simprocAttr];simp +decide only[↓vS,vT,simprocAttr,hw1];refine ih3 _ _ (Wk.mkn _ _ [0,1,2,3,4,5,6,7] ?_ ?_ ?_ rfl ?_ ?_)
     ·simp[vw,wT,v6,qn,wkB]
     ·simp[vw,wkB,qn,qH,qV,qM,qc]
     ·simp
     ·simp[wkB]
     ·intro b hb;have:b=0∨b=1:=by omega
      rcases this with rfl|rfl<;>rfl)
   ·simp[vw,wT,v6,qn,wI,wkB]
   ·simp[vw,wI,wkB,qn,qH,qV,qM,qc,qt,hs1,hs1']
   ·simp
   ·simp[wI,wkB]
   ·intro b hb;have:b=0∨b=1:=by omega
    rcases this with rfl|rfl<;>rfl
  ·have hj0':decide ((j:Int)=0)=false:=by simp;omega
   have he1:(j0 j (s,r)).1=s:=by unfold j0;rw[if_neg hj0]
   have he2:(j0 j (s,r)).2=r:=by unfold j0;rw[if_neg hj0]
   simp only[he1,he2] at hstM;have hs1':=hs1;simp +decide only[↓vS,vT,simprocAttr,hlt,hel,h4,hj0'];refine qdS hcw hof hcc hcome hwr hvis hwy p hp i hii j hpi l (by omega) s r hs1 hs2 _ ?_ (Wk.mkn _ _ [0,1,2,3,4,5,6,7,8,9] ?_ ?_ ?_ rfl ?_ ?_)
   ·rintro e t'' h'' (rfl|rfl) hw2<;>(
     simp +decide only[↓vS,vT,simprocAttr];rw[← hstM] at hw2;refine S.weak hw2 (qr ?_);generalize (stM p.length j i (l,s,r))=st2 at ih3 hI;obtain⟨l2,s2,r2⟩:=st2;simp only at ih3 hI;simp only[jj,wT,wkB,List.cons_append,List.nil_append,vI,simprocAttr];simp +decide only[↓vS,vT,simprocAttr,hw1];refine ih3 _ _ (Wk.mkn _ _ [0,1,2,3,4,5,6,7] ?_ ?_ ?_ rfl ?_ ?_)
     ·simp[vw,wT,v6,qn,wkB]
     ·simp[vw,wkB,qn,qH,qV,qM,qc]
     ·simp
     ·simp[wkB]
     ·intro b hb;have:b=0∨b=1:=by omega
      rcases this with rfl|rfl<;>rfl)
   ·simp[vw,wT,v6,qn,wI,wkB]
   ·simp[vw,wI,wkB,qn,qH,qV,qM,qc,qt,hs1,hs1']
   ·simp
   ·simp[wI,wkB]
   ·intro b hb;have:b=0∨b=1:=by omega
    rcases this with rfl|rfl<;>rfl
 ·obtain rfl:j=p.length:=by omega
  have hu:kq p=l:=by unfold kq;rw[← hgo,List.drop_length];rfl
  simp +decide only[↓vS,vT,simprocAttr,hlt];rw[hu];simp[vZ,vP,Tr.get_set,zC qH];intro h0;rw[h0];rfl
def qms(P:Program)(g:Nat):Prop:=∀n,qb P g [.i .u16 n] (.b (zO n))
def qb6(i:Ins):Bool:=!zO i.code
def qcH(i:Ins):Bool:=decide (i.code=32)&&(decide (i.k % 4≠0)||decide (64<=i.k))
def qcI(i:Ins):Bool:=(decide (i.code=96)||decide (i.code=97)||decide (qm i.code=2))&&decide (16<=i.k)
def qcJ(i:Ins):Bool:=decide (i.code=52)&&decide (i.k=0)
def qcK(i:Ins):Bool:=(decide (i.code=100)||decide (i.code=116))&&decide (31<i.k)
def qcL(i:Ins)(n:Nat):Bool:=if i.code=5 then decide ((n:Int)<=i.k) else decide (qm i.code=4)&&decide ((n:Int)<=hiM i)
def vd(a:Nat):IFn:=⟨[.tmp 4],.seq (.r [.q 2 (.box (.t 0)),.m 4 .F]) (.seq (.r [.f 5 0 2,.d 6 5,.l 7 a [.t 6],.q 8 (.un .not (.t 7)),.n 4 8]) (.ret))⟩
theorem qr4{g:Nat}(hc:qh P f (vd g)=true)(hg:qms P g)(i:Ins)(n:Nat):qb P f [.agg (qt i),.i .i64 n] (.b (qb6 i)):=by
 refine qb.mk hc rfl ?_;simp only[vd,qt,vI,simprocAttr];simp +decide only[↓vS,vT,simprocAttr];refine (hg _).sc ?_;simp +decide only[↓vS,vT,simprocAttr];simp[vZ,qb6]
def ve:IFn:=⟨[.tmp 4],.seq (.r [.q 2 (.box (.t 0)),.m 4 .F]) (.seq (.r [.f 5 0 2,.d 6 5,.q 7 (.bin .eql (.t 6) (.c (.i .u16 32))),.n 8 7,.h 9 3 2 8 true,.j 10 9 8 true,.g 11 (.bin .rem (.t 10) (.c (.i .u32 4))) 8 true,.g 12 (.bin .neq (.t 11) (.c (.i .u32 0))) 8 true,.y 13 12 8,.h 14 3 2 13 false,.j 15 14 13 false,.g 16 (.bin .geq (.t 15) (.c (.i .u32 64))) 13 false,.g 17 (.pick (.t 13) .T (.t 16)) 8 true,.p 18 8 17,.n 4 18]) (.ret))⟩
theorem qr5(hc:qh P f ve=true)(i:Ins)(hi:InsOk i)(n:Nat):qb P f [.agg (qt i),.i .i64 n] (.b (qcH i)):=by
 refine qb.mk hc rfl ?_;have h40:(4:Int)≠0:=by decide
 have h0:=hi.k0;have ht:i.k.tmod 4=i.k % 4:=Int.tmod_eq_emod_of_nonneg h0;unfold qcH;simp only[ve,qt,vI,simprocAttr]
 by_cases h1:i.code=32
 ·by_cases h2:i.k % 4=0
  ·simp +decide only[↓vS,vT,simprocAttr,h1,↓jJ h40,ht,h2];simp[vZ]
  ·simp +decide only[↓vS,vT,simprocAttr,h1,↓jJ h40,ht,h2];simp[vZ,h2]
 ·simp +decide only[↓vS,vT,simprocAttr,h1];simp[vZ]
def vf(a:Nat):IFn:=⟨[.tmp 4],.seq (.r [.q 2 (.box (.t 0)),.m 4 .F]) (.seq (.r [.f 6 0 2,.d 7 6,.q 8 (.bin .eql (.t 7) (.c (.i .u16 96))),.n 9 8,.h 10 0 2 9 false,.j 11 10 9 false,.g 12 (.bin .eql (.t 11) (.c (.i .u16 97))) 9 false,.o 13 9 12,.n 14 13,.h 15 0 2 14 false,.j 16 15 14 false,⟨(some 17),.callF a [.t 16],(some (14,false))⟩,.g 18 (.bin .eql (.t 17) (.c (.i .u8 2))) 14 false,.o 19 14 18,.n 5 19]) (.seq (.r [.n 20 5,.n 21 20,.h 22 3 2 21 true,.j 23 22 21 true,.g 24 (.bin .geq (.t 23) (.c (.i .u32 16))) 21 true,.p 25 21 24,.n 4 25]) (.ret)))⟩
theorem qr6{g:Nat}(hc:qh P f (vf g)=true)(hg:cOf P g)(i:Ins)(n:Nat):qb P f [.agg (qt i),.i .i64 n] (.b (qcI i)):=by
 refine qb.mk hc rfl ?_;unfold qcI;simp only[vf,qt,vI,simprocAttr]
 by_cases h1:i.code=96
 ·simp +decide only[↓vS,vT,simprocAttr,h1];simp[vZ]
 by_cases h2:i.code=97
 ·simp +decide only[↓vS,vT,simprocAttr,h1,h2];simp[vZ]
 simp +decide only[↓vS,vT,simprocAttr,h1,h2];refine (hg _).sc ?_
 by_cases h3:qm i.code=2
 ·simp +decide only[↓vS,vT,simprocAttr,h3];simp[vZ]
 ·simp +decide only[↓vS,vT,simprocAttr,h3];simp[vZ,h1,h2]
def vg:IFn:=⟨[.tmp 4],.seq (.r [.q 2 (.box (.t 0)),.m 4 .F]) (.seq (.r [.f 5 0 2,.d 6 5,.q 7 (.bin .eql (.t 6) (.c (.i .u16 52))),.n 8 7,.h 9 3 2 8 true,.j 10 9 8 true,.g 11 (.bin .eql (.t 10) (.c (.i .u32 0))) 8 true,.p 12 8 11,.n 4 12]) (.ret))⟩
theorem qr7(hc:qh P f vg=true)(i:Ins)(n:Nat):qb P f [.agg (qt i),.i .i64 n] (.b (qcJ i)):=by
 refine qb.mk hc rfl ?_;unfold qcJ;simp only[vg,qt,vI,simprocAttr]
 by_cases h1:i.code=52
 ·simp +decide only[↓vS,vT,simprocAttr,h1];simp[vZ]
 ·simp +decide only[↓vS,vT,simprocAttr,h1];simp[vZ]
def vh:IFn:=⟨[.tmp 4],.seq (.r [.q 2 (.box (.t 0)),.m 4 .F]) (.seq (.r [.f 5 0 2,.d 6 5,.q 7 (.bin .eql (.t 6) (.c (.i .u16 100))),.n 8 7,.h 9 0 2 8 false,.j 10 9 8 false,.g 11 (.bin .eql (.t 10) (.c (.i .u16 116))) 8 false,.o 12 8 11,.n 13 12,.h 14 3 2 13 true,.j 15 14 13 true,.g 16 (.bin .gtr (.t 15) (.c (.i .u32 31))) 13 true,.p 17 13 16,.n 4 17]) (.ret))⟩
theorem qr8(hc:qh P f vh=true)(i:Ins)(n:Nat):qb P f [.agg (qt i),.i .i64 n] (.b (qcK i)):=by
 refine qb.mk hc rfl ?_;unfold qcK;simp only[vh,qt,vI,simprocAttr]
 by_cases h1:i.code=100
 ·simp +decide only[↓vS,vT,simprocAttr,h1];simp[vZ]
 by_cases h2:i.code=116
 ·simp +decide only[↓vS,vT,simprocAttr,h1,h2];simp[vZ]
 simp +decide only[↓vS,vT,simprocAttr,h1,h2];simp[vZ]
def vi(a:Nat):IFn:=⟨[.tmp 4],.seq (.r [.q 2 (.box (.t 0)),.m 4 .F]) (.seq (.seq (.r [.f 5 0 2,.d 6 5,.q 7 (.bin .eql (.t 6) (.c (.i .u16 5)))]) (.cond (.t 7) (.seq (.r [.f 8 3 2,.d 9 8,.q 10 (.cvInt .i64 (.t 9)),.n 11 1,.b 12 .geq 10 11,.n 4 12]) (.ret)) (.skip))) (.seq (.r [.f 13 0 2,.d 14 13,.l 15 a [.t 14],.q 16 (.bin .eql (.t 15) (.c (.i .u8 4))),.n 17 16,.h 18 1 2 17 true,.j 19 18 17 true,.h 20 2 2 17 true,.j 21 20 17 true,.g 22 (.max (.t 19) (.t 21)) 17 true,.g 23 (.cvInt .i64 (.t 22)) 17 true,.y 24 1 17,.g 25 (.bin .geq (.t 23) (.t 24)) 17 true,.p 26 17 25,.n 4 26]) (.ret)))⟩
theorem qr9{g:Nat}(hc:qh P f (vi g)=true)(hg:cOf P g)(i:Ins)(hi:InsOk i)(n:Nat):qb P f [.agg (qt i),.i .i64 n] (.b (qcL i n)):=by
 refine qb.mk hc rfl ?_;have hk:IntKind.wrap .i64 i.k=i.k:=by have:=hi.k0;have:=hi.k1;exact qv (by omega) (by omega)
 have hh:IntKind.wrap .i64 (hiM i)=hiM i:=by
  have:=hi.t0;have:=hi.t1;have:=hi.f0;have:=hi.f1
  refine qv ?_ ?_<;>(unfold hiM;split<;>omega)
 unfold qcL;simp only[vi,qt,vI,simprocAttr]
 by_cases h1:i.code=5
 ·rw[if_pos h1];simp +decide only[↓vS,vT,simprocAttr,h1,hk];simp[vZ]
 rw[if_neg h1];simp +decide only[↓vS,vT,simprocAttr,h1];refine (hg _).sc ?_
 by_cases h2:qm i.code=4
 ·simp +decide only[↓vS,vT,simprocAttr,h2];simp only[show (if i.jt<i.jf then i.jf else i.jt)=hiM i from rfl,hh]
  simp[vZ]
 ·simp +decide only[↓vS,vT,simprocAttr,h2];simp[vZ]
def qbf(x:Int×Nat×Bool):List AV:=[.i .i64 x.1,.fn x.2.1 [] []]
theorem qdH(x:Int×Nat×Bool):(qbf x).length=2:=rfl
def wsM(g1 g2 g3 g4 g5 g6:Nat)(i:Ins)(n:Nat):List (Int×Nat×Bool):=[(40,g1,qb6 i),(41,g2,qcH i),(43,g3,qcI i),(44,g4,qcJ i),(45,g5,qcK i),(42,g6,qcL i n)]
def yJ(i:Ins)(n:Nat):Int:=if qb6 i=true then 40 else if qcH i=true then 41 else if qcI i=true then 43 else if qcJ i=true then 44 else if qcK i=true then 45 else if qcL i n=true then 42 else 0
def kN(a b c d e g:Nat):IFn:=⟨[.cell 0 12 true],.seq (.r [.q 0 (.alloc [.i .i64 0,.nilf,.i .i64 0,.nilf,.i .i64 0,.nilf,.i .i64 0,.nilf,.i .i64 0,.nilf,.i .i64 0,.nilf])]) (.seq (.r [.q 1 (.build [.i .i64 0,.nilf] [(0,1,(.k 40)),(1,1,(.c (.fn a [] [])))]),.q 2 (.build [.i .i64 0,.nilf] [(0,1,(.k 41)),(1,1,(.c (.fn b [] [])))]),.q 3 (.build [.i .i64 0,.nilf] [(0,1,(.k 43)),(1,1,(.c (.fn c [] [])))]),.q 4 (.build [.i .i64 0,.nilf] [(0,1,(.k 44)),(1,1,(.c (.fn d [] [])))]),.q 5 (.build [.i .i64 0,.nilf] [(0,1,(.k 45)),(1,1,(.c (.fn e [] [])))]),.q 6 (.build [.i .i64 0,.nilf] [(0,1,(.k 42)),(1,1,(.c (.fn g [] [])))]),.q 7 (.build [.i .i64 0,.nilf,.i .i64 0,.nilf,.i .i64 0,.nilf,.i .i64 0,.nilf,.i .i64 0,.nilf,.i .i64 0,.nilf] [(0,2,(.t 1)),(2,2,(.t 2)),(4,2,(.t 3)),(6,2,(.t 4)),(8,2,(.t 5)),(10,2,(.t 6))]),.u (.store 12 (.t 0) (.t 7))]) (.ret))⟩
theorem qlT{g1 g2 g3 g4 g5 g6:Nat}(hc:qh P f (kN g1 g2 g3 g4 g5 g6)=true)(i:Ins)(n:Nat):qb P f [] (.agg ((wsM g1 g2 g3 g4 g5 g6 i n).flatMap qbf)):=by
 refine qb.mk hc rfl ?_;simp only[kN,vI,simprocAttr];simp +decide only[↓vS,vT,simprocAttr];simp[vZ,vP,Tr.get_set,wsM,qbf]
def Zf(a:Nat):IFn:=⟨[.tmp 4],.seq (.r [.q 2 (.box (.t 0)),.m 4 (.k 0)]) (.seq (.seq (.r [.l 7 a [],.m 8 (.k 0)]) (.blk 0 (.loop (.seq (.r [.w 9 .lss 8 6]) (.seq (.cond (.t 9) (.skip) (.exit 0)) (.seq (.blk 1 (.seq (.r [.q 10 (.idxA 6 2 true (.t 7) (.t 8)),.q 6 (.alloc [.i .i64 0,.nilf]),.u (.store 2 (.t 6) (.t 10))]) (.seq (.r [.f 11 1 6,.d 12 11,.v 13 4 2,.n 14 1,.q 15 (.max (.t 14) (.k 0)),⟨(some 16),.callV (.t 12) [.t 13,.t 15],none⟩]) (.cond (.t 16) (.seq (.r [.f 17 0 6,.d 18 17,.n 4 18]) (.ret)) (.skip))))) (.r [.a 19 8 1,.n 8 19]))))))) (.seq (.r [.m 4 (.k 0)]) (.ret)))⟩
theorem qqq{g0:Nat}(hc:qh P f (Zf g0)=true)(i:Ins)(n:Nat)(ws:List (Int×Nat×Bool))(hw6:ws.length=6)(h0:qb P g0 [] (.agg (ws.flatMap qbf)))(hw:∀x ∈ ws,qb P x.2.1 [.agg (qt i),.i .i64 n] (.b x.2.2)) :
  qb P f [.agg (qt i),.i .i64 n] (.i .i64 ((ws.find? fun x=>x.2.2).elim 0 fun x=>x.1)):=by
 refine qb.mk hc rfl ?_;have hn0:¬(n:Int)<0:=by omega
 have hlen:(ws.flatMap qbf).length=12:=by rw[xY qdH,hw6]
 have hcl:qx (ws.flatMap qbf)=true:=yY (fun _=>rfl)
 simp only[Zf,qt,vI,simprocAttr];simp +decide only[↓vS,vT,simprocAttr];refine h0.sc ?_;simp +decide only[↓vS,vT,simprocAttr];refine SL.loop (α:=Nat) (fun j=>[(1,.i .i64 (n:Int)),(2,.ptr 0 0),(7,.agg (ws.flatMap qbf)),(8,.i .i64 (j:Int))]) (fun _=>[.cells 0 true false (qt i)]) (fun j=>j<=6∧(ws.drop j).find? (fun x=>x.2.2)=ws.find? (fun x=>x.2.2)) (fun j=>6-j) 0 [0] ?_ ?_ ?_ rfl ?_ ?_
 ·simp[vw,qc,hcl]
 ·simp[vw,qt]
 ·simp
 ·exact⟨Nat.zero_le _,rfl⟩
 rintro j ⟨hj,hI⟩ G ih;simp only[vI,simprocAttr,qt]
 by_cases hlt:j<6
 ·have hlt':(j:Int)<6:=by omega
  have hjl:j<ws.length:=by omega
  have hx:ws[j]?=some ws[j]:=zzE hjl;have hw1:IntKind.wrap .i64 ((j:Int)+1)=((j+1:Nat):Int):=by rw[qv (by omega) (by omega)];omega
  have hel:=zP (f:=qbf) (m:=2) qdH hx;have hb:j*2+2<=(ws.flatMap qbf).length:=by omega
  have hpx:=hw _ (List.getElem_mem hjl);rw[List.drop_eq_getElem_cons hjl,List.find?_cons] at hI;generalize hc0:ws[j]=x at hel hI hpx;simp only[qbf] at hel;generalize hT:ws.flatMap qbf=T at hel hb hlen hcl;simp +decide only[↓vS,vT,simprocAttr,hlt',hlt,hel,hb,hn0];refine hpx.sc ?_;cases hs:x.2.2 with
  | true =>
   rw[hs] at hI;simp +decide only[↓vS,vT,simprocAttr];rw[← hI];simp[vZ]
  | false =>
   rw[hs] at hI;simp +decide only[↓vS,vT,simprocAttr,hw1];refine ih (j+1) ⟨hlt,hI⟩ (by omega) _ _ (Wk.mk _ _ [0] ?_ ?_ ?_ rfl)
   ·simp[vw,qc,hcl,hT]
   ·simp[vw,qt]
   ·simp
 ·obtain rfl:j=6:=by omega
  have hd:ws.drop 6=[]:=List.drop_eq_nil_of_le (by omega);rw[hd] at hI;rw[← hI];simp +decide only[↓vS,vT,simprocAttr];simp[vZ]
theorem qqW{g1 g2 g3 g4 g5 g6:Nat}{i:Ins}{n:Nat}:(((wsM g1 g2 g3 g4 g5 g6 i n).find? fun x=>x.2.2).elim 0 fun x=>x.1)=yJ i n:=by
 unfold wsM yJ;cases qb6 i<;>cases qcH i<;>cases qcI i<;>cases qcJ i<;>cases qcK i<;>cases qcL i n<;>rfl
def Qk(n:Nat):Nat->List Ins->Option (Nat×Int)
 | _,[]=>none
 | j,i::L=>if yJ i (n-1-j)=0 then Qk n (j+1) L else some (j,yJ i (n-1-j))
theorem QH{n j:Nat}{i:Ins}{L:List Ins}:Qk n j (i::L)=if yJ i (n-1-j)=0 then Qk n (j+1) L else some (j,yJ i (n-1-j)):=rfl
def QD(p:List Ins):Int:=(p.getD (p.length-1) ⟨0,0,0,0⟩).code
def atU(p:List Ins)(u:List Nat):Nat×Int :=
 if p.length=0∨4096<p.length then (0,60) else (Qk p.length 0 p).elim (if qm (QD p)=5 then (match u with | []=>(0,0)|a::_=>(a,61)) else (p.length-1,46)) id
def cAt(P:Program)(f:Nat):Prop:=∀p:List Ins,(∀i ∈ p,InsOk i)->p.length<=5000->qb P f [.fz p.length (rP p)] (.tup [.i .i64 ((atU p (kq p)).1:Int),.i .i64 (atU p (kq p)).2])
def vc(a b c:Nat):IFn:=⟨[.tmp 2,.tmp 3],.seq (.r [.m 2 (.k 0),.m 3 (.k 0)]) (.seq (.seq (.r [.n 10 0,.e 11 10,.w 12 .lss 11 1,.n 13 12,.z 14 0 13,.g 15 (.len false (.t 14)) 13 false,.g 16 (.bin .gtr (.t 15) (.k 4096)) 13 false,.o 17 13 16]) (.cond (.t 17) (.seq (.r [.m 2 (.k 0),.m 3 (.k 60)]) (.ret)) (.skip))) (.seq (.r [.n 18 0,.e 19 18,.w 20 .sub 19 1,.n 4 20]) (.seq (.seq (.r [.n 21 0,.e 22 21,.m 23 (.k 0)]) (.blk 0 (.loop (.seq (.r [.s 24 23 22]) (.seq (.cond (.t 24) (.skip) (.exit 0)) (.seq (.blk 1 (.seq (.r [.n 25 23,.i 26 4 21 23,.v 27 4 26,.q 6 (.alloc [.i .u16 0,.i .u8 0,.i .u8 0,.i .u32 0]),.n 5 25,.u (.store 4 (.t 6) (.t 27))]) (.seq (.r [.v 28 4 6,.n 29 4,.n 30 5,.b 31 .sub 29 30,.l 32 a [.t 28,.t 31],.n 7 32]) (.seq (.r [.n 33 7,.w 34 .neq 33 0]) (.cond (.t 34) (.seq (.r [.n 35 5,.n 36 7,.n 2 35,.n 3 36]) (.ret)) (.skip)))))) (.r [.a 37 23 1,.n 23 37]))))))) (.seq (.seq (.r [.n 38 0,.n 39 4,.i 40 4 38 39,.f 41 0 40,.d 42 41,.l 43 b [.t 42],.q 44 (.bin .neq (.t 43) (.c (.i .u8 5)))]) (.cond (.t 44) (.seq (.r [.n 45 4,.n 2 45,.m 3 (.k 46)]) (.ret)) (.skip))) (.seq (.seq (.r [.n 46 0,.l 47 c [.t 46],.e 48 47,.m 49 (.k 0)]) (.blk 2 (.loop (.seq (.r [.s 50 49 48]) (.seq (.cond (.t 50) (.skip) (.exit 2)) (.seq (.blk 3 (.seq (.r [.i 51 1 47 49,.d 52 51,.n 9 52]) (.seq (.r [.n 53 9,.n 2 53,.m 3 (.k 61)]) (.ret)))) (.r [.a 54 49 1,.n 49 54]))))))) (.seq (.r [.m 2 (.k 0),.m 3 (.k 0)]) (.ret)))))))⟩
theorem qjK{g1 g2 g3:Nat}(hc:qh P f (vc g1 g2 g3)=true)(h1:∀i,InsOk i->∀n:Nat,qb P g1 [.agg (qt i),.i .i64 (n:Int)] (.i .i64 (yJ i n)))(h2:cOf P g2)
  (h3:∀p:List Ins,p.length<=4096->(∀i ∈ p,InsOk i)->qb P g3 [.fz p.length (rP p)] (.fz (kq p).length (rNt (kq p)))):cAt P f:=by
 intro p hi hp;refine qb.mk hc (by simp[qx,clo,qn]) ?_;unfold atU;simp only[vc,vI,simprocAttr]
 by_cases hz:p.length=0
 ·have hz':(p.length:Int)<1:=by omega
  rw[if_pos (.inl hz)];simp +decide only[↓vS,vT,simprocAttr,hz'];simp[vZ]
 have hz':¬(p.length:Int)<1:=by omega
 by_cases hb:4096<p.length
 ·have hb':(4096:Int)<p.length:=by omega
  rw[if_pos (.inr hb)];simp +decide only[↓vS,vT,simprocAttr,hz',hb'];simp[vZ]
 have hb':¬(4096:Int)<p.length:=by omega
 rw[if_neg (by omega)];have hl1:IntKind.wrap .i64 ((p.length:Int)-1)=((p.length-1:Nat):Int):=by rw[qv (by omega) (by omega)];omega
 simp +decide only[↓vS,vT,simprocAttr,hz',hb',hl1];refine SL.loop (α:=Nat) (fun j=>[(0,.fz p.length (rP p)),(4,.i .i64 ((p.length-1:Nat):Int)),(21,.fz p.length (rP p)),(22,.i .i64 (p.length:Int)),(23,.i .i64 (j:Int))]) (fun _=>[]) (fun j=>j<=p.length∧Qk p.length j (p.drop j)=Qk p.length 0 p) (fun j=>p.length-j) 0 [] ?_ ?_ ?_ rfl ?_ ?_
 ·simp[vw,qn]
 ·trivial
 ·simp
 ·exact⟨Nat.zero_le _,rfl⟩
 rintro j ⟨hj,hI⟩ G ih;simp only[vI,simprocAttr]
 by_cases hlt:j<p.length
 ·obtain⟨i,hpi⟩:∃i,p[j]?=some i:=⟨_,zzE hlt⟩;have hii:=hi i (zzM hpi);have hel:=zP (f:=qt) (m:=4) jP hpi;rw[show p.flatMap qt=rP p from rfl] at hel
  simp only[qt] at hel;have h4:j*4+4<=(rP p).length:=by rw[ZO];omega
  have hdr:p.drop j=i::p.drop (j+1):=by
   obtain⟨hh,he⟩:=zzS.1 hpi;rw[List.drop_eq_getElem_cons hh,he]
  rw[hdr,QH] at hI;have hw1:IntKind.wrap .i64 ((j:Int)+1)=((j+1:Nat):Int):=by rw[qv (by omega) (by omega)];omega
  have hw2:IntKind.wrap .i64 (((p.length-1:Nat):Int)-(j:Int))=((p.length-1-j:Nat):Int):=by rw[qv (by omega) (by omega)];omega
  have hone:=h1 i hii (p.length-1-j);simp only[qt] at hone;simp +decide only[↓vS,vT,simprocAttr,hlt,hel,h4,hw2];refine hone.sc ?_
  by_cases h0:yJ i (p.length-1-j)=0
  ·rw[if_pos h0] at hI;simp +decide only[↓vS,vT,simprocAttr,h0,hw1];refine ih (j+1) ⟨hlt,hI⟩ (by omega) _ _ (Wk.mk _ _ [] ?_ ?_ ?_ rfl)
   ·simp[vw,qn]
   ·trivial
   ·simp
  ·rw[if_neg h0] at hI;simp +decide only[↓vS,vT,simprocAttr,h0];rw[← hI];simp[vZ]
 ·obtain rfl:j=p.length:=by omega
  have hd:p.drop p.length=[]:=List.drop_eq_nil_of_le (by omega);rw[hd] at hI;simp only[Qk] at hI;rw[← hI];obtain⟨i,hpi⟩:∃i,p[p.length-1]?=some i:=⟨_,zzE (by omega)⟩;have hlc:QD p=i.code:=by unfold QD;rw[List.getD_eq_getElem?_getD,hpi];rfl
  have hg:=qaJ (f:=qt) (m:=4) jP hpi (i:=0) (by omega);rw[show p.flatMap qt=rP p from rfl] at hg
  simp only[qt,Nat.add_zero,List.getElem?_cons_zero] at hg;have hlt2:p.length-1<p.length:=by omega
  simp +decide only[↓vS,vT,simprocAttr,hlt,hlt2,hg];refine (h2 _).sc ?_
  by_cases h5:qm i.code=5
  ·simp +decide only[↓vS,vT,simprocAttr,h5];refine (h3 p (by omega) hi).sc ?_;simp +decide only[↓vS,vT,simprocAttr];refine SL.loop (α:=Unit) (fun _=>[(47,.fz (kq p).length (rNt (kq p))),(48,.i .i64 ((kq p).length:Int)),(49,.i .i64 0)]) (fun _=>[]) (fun _=>True) (fun _=>0) () [] ?_ ?_ ?_ rfl ?_ ?_
   ·simp[vw,qH]
   ·trivial
   ·simp
   ·trivial
   rintro _ _ G2 _;simp only[vI,simprocAttr];rw[hlc];cases hu:kq p with
   | nil =>
    simp +decide only[↓vS,vT,simprocAttr,List.length_nil];simp[vZ,h5]
   | cons a u =>
    have hgt2:0<(a::u).length:=by simp
    have hga:(rNt (a::u))[0]?=some (.i .i64 (a:Int)):=rfl;generalize (a::u).length=m at hgt2 ⊢;generalize rNt (a::u)=T at hga ⊢;have hgt:(0:Int)<(m:Int):=by omega
    simp +decide only[↓vS,vT,simprocAttr,hgt,hgt2,Nat.mul_one,hga];simp[vZ,h5]
  ·simp +decide only[↓vS,vT,simprocAttr,h5];rw[hlc];simp[vZ,h5]
def jk(a:Nat):IFn:=⟨[.tmp 2],.seq (.r [.m 2 (.k 0)]) (.seq (.r [.n 6 0,.l 7 a [.t 6],.n 5 7,.x 8 5 0,.x 9 5 1,.n 3 8,.n 4 9]) (.seq (.r [.n 10 4,.n 2 10]) (.ret)))⟩
theorem qmz{g:Nat}(hc:qh P f (jk g)=true)(hg:cAt P g)(p:List Ins)(hi:∀i ∈ p,InsOk i)(hp:p.length<=5000):qb P f [.fz p.length (rP p)] (.i .i64 (atU p (kq p)).2):=by
 refine qb.mk hc (by simp[qx,clo,qn]) ?_;simp only[jk,vI,simprocAttr];simp +decide only[↓vS,vT,simprocAttr];refine (hg p hi hp).sc ?_;simp +decide only[↓vS,vT,simprocAttr];simp[vZ]




theorem wA{c:Int}{x:Int×List UInt8×Int}(h:xr c=some x):x ∈ xJ∧x.1=c:=by
 unfold xr at h;have h1:=List.mem_of_find?_eq_some h;have h2:=List.find?_some h;exact⟨h1,by simpa using h2⟩

end Go.Kc
end
section
namespace Go.Kc
variable [Cur]
theorem qet:∀x ∈ xJ,x.2.2=2->x.1=2∨x.1=3:=by decide
theorem qmA{c:Int}:qm c=2↔c=2∨c=3:=by
 constructor
 ·intro h;unfold qm at h;cases hc:xr c with
  | none=>rw[hc] at h;cases h
  | some x =>
   rw[hc] at h;obtain⟨h1,h2⟩:=wA hc;rw[← h2];exact qet x h1 h
 ·rintro (rfl|rfl)<;>decide
section
variable (p:List Ins)
end
end Go.Kc
end
