/- The arguments of the laws, opened: policies, data. No condition. -/
import Derived.Test.YtgaodkfneooonaaGreatMK3
import Derived.Test.YtgaodkfneooonaaGreatMK6
import Derived.Test.YtgaodkfneooonaaGreatProg
import Derived.KernelRfl
namespace Go.Proofs.YtgaodkfneooonaaGreat.Args
open Go.Kc
section
variable {H:Type} {enc:TypeId×Value->H} {w:World}
theorem kids:Kids Tryz.prog (· < Tryz.prog.types.size):=kids_rows Ad Ad
theorem full:∀t e,t<Tryz.prog.types.size->Tryz.prog.underlying t=some (.slice e)->0<Tryz.prog.cellsOf e:=slices_full_of Tryz.prog Ad
theorem wf8{n:Int}(h:(Lit.int .u8 n).wf=true):0<=n∧n<=255:=by
 have h':(decide (IntKind.u8.min<=n)&&decide (n<=IntKind.u8.max))=true:=h;exact Is
theorem wf32{n:Int}(h:(Lit.int .u32 n).wf=true):0<=n∧n<=4294967295:=by
 have h':(decide (IntKind.u32.min<=n)&&decide (n<=IntKind.u32.max))=true:=h;exact Is
theorem wf64{n:Int}(h:(Lit.int .u64 n).wf=true):0<=n∧n<18446744073709551616:=by
 have h':(decide (IntKind.u64.min<=n)&&decide (n<=IntKind.u64.max))=true:=h;simp only[Bool.and_eq_true,decide_eq_true_eq] at h';have e1:IntKind.u64.min=0:=Af
 have e2:IntKind.u64.max=18446744073709551615:=Af
 exact Ab
theorem oCall:qeV enc Tryz.prog w 125 (fun c:GCall=>0<=c.act∧c.act<=4294967295) qfW :=
 (qCu Tryz.underlying125 Ad (qD4 (m:=1) (qIy Tryz.underlying9) (fun _=>rfl) rfl Ad (qD4 (m:=1) (qIx Tryz.underlying23) (fun _=>rfl) rfl Ad qG2))).map (fun p=>⟨p.1,p.2.1⟩) (fun _ h=>⟨wf32 h.2.1,rfl⟩)
theorem oList:qeV enc Tryz.prog w 60 (fun l:GList=>0<=l.mode∧Rng l.calls) xN :=
 (qCu Tryz.underlying60 Ad (qD4 (m:=1) (qIx Tryz.underlying5) (fun _=>rfl) rfl Ad
  (qD4 (m:=1) (qD6 Tryz.underlying58 oCall qin Ad Af) (fun _=>rfl) rfl Ad qG2))).map (fun p=>⟨p.1,p.2.1⟩) (fun _ h=>⟨⟨(wf8 h.1).1,h.2.1.2⟩,rfl⟩)
theorem oIntsP:qeV enc Tryz.prog w 51 (fun _:List Int=>True) (fun l=>[.fz l.length (rI .i64 l)]) :=
 (qD6 Tryz.underlying51 (qIx Tryz.underlying3) (m:=1) (fun _=>rfl) Ad Af).map (fun l=>l) (fun l _=>⟨trivial,by rw[qHh];rfl⟩)
theorem oU32s:qeV enc Tryz.prog w 61 (fun l:List Int=>∀x ∈ l,0<=x∧x<=4294967295) (fun l=>[.fz l.length (rI .u32 l)]) :=
 (qD6 Tryz.underlying61 (qIx Tryz.underlying23) (m:=1) (fun _=>rfl) Ad Af).map (fun l=>l) (fun l h=>⟨fun x hx=>wf32 (h.2 x hx),by rw[qHh];rfl⟩)
theorem oPol:qeV enc Tryz.prog w 63 (fun p:Pol=>PolR p) qm :=
 (qCu Tryz.underlying63 Ad (qD4 (m:=1) oIntsP (fun _=>rfl) rfl Ad (qD4 (m:=2) oList (fun _=>rfl) rfl Ad (qD4 (m:=1) (qIx Tryz.underlying23) (fun _=>rfl) rfl Ad
  (qD4 (m:=2) oList (fun _=>rfl) rfl Ad (qD4 (m:=1) oU32s (fun _=>rfl) rfl Ad (qD4 (m:=1) (qIx Tryz.underlying5) (fun _=>rfl) rfl Ad (qD4 (m:=1) (qIx Tryz.underlying26) (fun _=>rfl) rfl Ad
  (qD4 (m:=1) (qG3 Tryz.underlying4) (fun _=>rfl) rfl Ad (qD4 (m:=1) (qG3 Tryz.underlying4) (fun _=>rfl) rfl Ad (qD4 (m:=1) (qG3 Tryz.underlying4) (fun _=>rfl) rfl Ad (qD4 (m:=1) (qG3 Tryz.underlying4) (fun _=>rfl) rfl Ad qG2)))))))))))).map
  (fun p=>⟨p.1,p.2.1,p.2.2.1,p.2.2.2.1,p.2.2.2.2.1,p.2.2.2.2.2.1,p.2.2.2.2.2.2.1,p.2.2.2.2.2.2.2.1,p.2.2.2.2.2.2.2.2.1,p.2.2.2.2.2.2.2.2.2.1,p.2.2.2.2.2.2.2.2.2.2.1⟩) (fun _ h=>⟨⟨h.2.2.2.2.1,wf32 h.2.2.1,wf64 h.2.2.2.2.2.2.1,h.2.1.2,h.2.2.2.1.2⟩,rfl⟩)
theorem oArr:qeV enc Tryz.prog w 27 (fun l:List Int=>l.length=6∧∀a ∈ l,(Lit.int .u64 a).wf=true) (fun l=>l.flatMap fun n=>[.i .u64 n]):=qD5 (m:=1) Tryz.underlying27 (qIx Tryz.underlying26) Ad Ad
theorem six:∀{l:List Int},l.length=6->∃a b c d e f,l=[a,b,c,d,e,f]
 | [a,b,c,d,e,f],_=>⟨a,b,c,d,e,f,rfl⟩
 | [],h=>G3
 | [_],h=>G3
 | [_,_],h=>G3
 | [_,_,_],h=>G3
 | [_,_,_,_],h=>G3
 | [_,_,_,_,_],h=>G3
 | _::_::_::_::_::_::_::_,h=>G3
def W64(n:Int):Prop:=0<=n∧n<18446744073709551616
theorem oArr6:qeV enc Tryz.prog w 27 (fun q:Int×Int×Int×Int×Int×Int=>W64 q.1∧W64 q.2.1∧W64 q.2.2.1∧W64 q.2.2.2.1∧W64 q.2.2.2.2.1∧W64 q.2.2.2.2.2) (fun q=>[.i .u64 q.1,.i .u64 q.2.1,.i .u64 q.2.2.1,.i .u64 q.2.2.2.1,.i .u64 q.2.2.2.2.1,.i .u64 q.2.2.2.2.2]) :=
 oArr.map (fun l=>(l.getD 0 0,l.getD 1 0,l.getD 2 0,l.getD 3 0,l.getD 4 0,l.getD 5 0)) (fun l h=>by
  obtain⟨a,b,c,d,e,f,rfl⟩:=six h.1;exact⟨⟨wf64 (h.2 a (by simp)),wf64 (h.2 b (by simp)),wf64 (h.2 c (by simp)),wf64 (h.2 d (by simp)),wf64 (h.2 e (by simp)),wf64 (h.2 f (by simp))⟩,rfl⟩)
theorem oData:qeV enc Tryz.prog w 29 (fun x:GData=>DatOk x) qq :=
 (qCu Tryz.underlying29 Ad (qD4 (m:=1) (qIx Tryz.underlying23) (fun _=>rfl) rfl Ad (qD4 (m:=1) (qIx Tryz.underlying23) (fun _=>rfl) rfl Ad (qD4 (m:=1) (qIx Tryz.underlying26) (fun _=>rfl) rfl Ad
  (qD4 (m:=6) oArr6 (fun _=>rfl) rfl Ad qG2))))).map
  (fun q=>⟨q.1,q.2.1,q.2.2.1,q.2.2.2.1.1,q.2.2.2.1.2.1,q.2.2.2.1.2.2.1,q.2.2.2.1.2.2.2.1,q.2.2.2.1.2.2.2.2.1,q.2.2.2.1.2.2.2.2.2⟩) (fun q h=>⟨⟨(wf32 h.1).1,(wf32 h.1).2,(wf32 h.2.1).1,(wf32 h.2.1).2,by
   obtain⟨h1,h2,h3,h4,h5,h6⟩:=h.2.2.2.1;intro x hx;simp only[qgT,List.mem_cons,List.not_mem_nil,or_false] at hx;rcases hx with rfl|rfl|rfl|rfl|rfl|rfl|rfl
   ·exact wf64 h.2.2.1
   ·exact h1
   ·exact h2
   ·exact h3
   ·exact h4
   ·exact h5
   ·exact h6⟩,rfl⟩)
end
end Go.Proofs.YtgaodkfneooonaaGreat.Args
