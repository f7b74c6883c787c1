/- The arguments of the laws, opened: calls, lists, rows of strings. No condition. -/
import Derived.Test.YtpopmjgimhmciaaGreatK6
import Derived.Test.YtpopmjgimhmciaaGreatK7
import Derived.Test.YtpopmjgimhmciaaGreatK7
import Derived.Test.YtpopmjgimhmciaaGreatK6
import Derived.Test.YtpopmjgimhmciaaGreatK8
import Derived.Test.YtpopmjgimhmciaaGreatProg
import Derived.KernelRfl
namespace Go.Proofs.YtpopmjgimhmciaaGreat.Args
open Go.Kc
section
variable {H:Type} {enc:TypeId×Value->H} {w:World}
theorem kids:Kids Tryz.prog (· < Tryz.prog.types.size):=kids_rows (by kernel_rfl) (by kernel_rfl)
theorem full:∀t e,t<Tryz.prog.types.size->Tryz.prog.underlying t=some (.slice e)->0<Tryz.prog.cellsOf e:=slices_full_of Tryz.prog (by kernel_rfl)
theorem wf8{n:Int}(h:(Lit.int .u8 n).wf=true):0<=n:=by
 have h':(decide (IntKind.u8.min<=n)&&decide (n<=IntKind.u8.max))=true:=h;simp only[Bool.and_eq_true,decide_eq_true_eq] at h';exact h'.1
theorem wf32{n:Int}(h:(Lit.int .u32 n).wf=true):0<=n∧n<=4294967295:=by
 have h':(decide (IntKind.u32.min<=n)&&decide (n<=IntKind.u32.max))=true:=h;simp only[Bool.and_eq_true,decide_eq_true_eq] at h';exact h'
theorem wf64{n:Int}(h:(Lit.int .u64 n).wf=true):0<=n∧n<18446744073709551616:=by
 have h':(decide (IntKind.u64.min<=n)&&decide (n<=IntKind.u64.max))=true:=h;simp only[Bool.and_eq_true,decide_eq_true_eq] at h';have e1:IntKind.u64.min=0:=by decide
 have e2:IntKind.u64.max=18446744073709551615:=by decide
 omega
theorem oCall:wL enc Tryz.prog w 44 (fun c:GCall=>0<=c.act∧c.act<=4294967295) jG :=
 (qjO Tryz.underlying44 (by kernel_rfl) (qkI (m:=1) (qnP Tryz.underlying9) (fun _=>rfl) rfl (by kernel_rfl) (qkI (m:=1) (qnO Tryz.underlying26) (fun _=>rfl) rfl (by kernel_rfl) qmQ))).map (fun p=>⟨p.1,p.2.1⟩) (fun _ h=>⟨wf32 h.2.1,rfl⟩)
theorem oList:wL enc Tryz.prog w 25 (fun l:GList=>0<=l.mode∧Rng l.calls) xn :=
 (qjO Tryz.underlying25 (by kernel_rfl) (qkI (m:=1) (qnO Tryz.underlying5) (fun _=>rfl) rfl (by kernel_rfl)
  (qkI (m:=1) (qkK Tryz.underlying23 oCall vg (by kernel_rfl) (by decide)) (fun _=>rfl) rfl (by kernel_rfl) qmQ))).map (fun p=>⟨p.1,p.2.1⟩) (fun _ h=>⟨⟨wf8 h.1,h.2.1.2⟩,rfl⟩)
theorem oInts:wL enc Tryz.prog w 22 (fun _:List Int=>True) (fun l=>[.fz l.length (rI .i64 l)]) :=
 (qkK Tryz.underlying22 (qnO Tryz.underlying3) (m:=1) (fun _=>rfl) (by kernel_rfl) (by decide)).map (fun l=>l) (fun l _=>⟨trivial,by rw[qmW];rfl⟩)
theorem oU32s:wL enc Tryz.prog w 27 (fun l:List Int=>∀x ∈ l,0<=x∧x<=4294967295) (fun l=>[.fz l.length (rI .u32 l)]) :=
 (qkK Tryz.underlying27 (qnO Tryz.underlying26) (m:=1) (fun _=>rfl) (by kernel_rfl) (by decide)).map (fun l=>l) (fun l h=>⟨fun x hx=>wf32 (h.2 x hx),by rw[qmW];rfl⟩)
theorem oPol:wL enc Tryz.prog w 30 (fun p:Pol=>PolR p) qr :=
 (qjO Tryz.underlying30 (by kernel_rfl) (qkI (m:=1) oInts (fun _=>rfl) rfl (by kernel_rfl) (qkI (m:=2) oList (fun _=>rfl) rfl (by kernel_rfl) (qkI (m:=1) (qnO Tryz.underlying26) (fun _=>rfl) rfl (by kernel_rfl)
  (qkI (m:=2) oList (fun _=>rfl) rfl (by kernel_rfl) (qkI (m:=1) oU32s (fun _=>rfl) rfl (by kernel_rfl) (qkI (m:=1) (qnO Tryz.underlying5) (fun _=>rfl) rfl (by kernel_rfl) (qkI (m:=1) (qnO Tryz.underlying28) (fun _=>rfl) rfl (by kernel_rfl)
  (qkI (m:=1) (qmR Tryz.underlying4) (fun _=>rfl) rfl (by kernel_rfl) (qkI (m:=1) (qmR Tryz.underlying4) (fun _=>rfl) rfl (by kernel_rfl) (qkI (m:=1) (qmR Tryz.underlying4) (fun _=>rfl) rfl (by kernel_rfl) (qkI (m:=1) (qmR Tryz.underlying4) (fun _=>rfl) rfl (by kernel_rfl) qmQ)))))))))))).map
  (fun p=>⟨p.1,p.2.1,p.2.2.1,p.2.2.2.1,p.2.2.2.2.1,p.2.2.2.2.2.1,p.2.2.2.2.2.2.1,p.2.2.2.2.2.2.2.1,p.2.2.2.2.2.2.2.2.1,p.2.2.2.2.2.2.2.2.2.1,p.2.2.2.2.2.2.2.2.2.2.1⟩) (fun _ h=>⟨⟨h.2.2.2.2.1,wf32 h.2.2.1,wf64 h.2.2.2.2.2.2.1,h.2.1.2,h.2.2.2.1.2⟩,rfl⟩)
theorem oPolZ:wL enc Tryz.prog w 30 (fun p:Pol=>PolR p∧0<=p.filter.mode) qr :=
 (qjO Tryz.underlying30 (by kernel_rfl) (qkI (m:=1) oInts (fun _=>rfl) rfl (by kernel_rfl) (qkI (m:=2) oList (fun _=>rfl) rfl (by kernel_rfl) (qkI (m:=1) (qnO Tryz.underlying26) (fun _=>rfl) rfl (by kernel_rfl)
  (qkI (m:=2) oList (fun _=>rfl) rfl (by kernel_rfl) (qkI (m:=1) oU32s (fun _=>rfl) rfl (by kernel_rfl) (qkI (m:=1) (qnO Tryz.underlying5) (fun _=>rfl) rfl (by kernel_rfl) (qkI (m:=1) (qnO Tryz.underlying28) (fun _=>rfl) rfl (by kernel_rfl)
  (qkI (m:=1) (qmR Tryz.underlying4) (fun _=>rfl) rfl (by kernel_rfl) (qkI (m:=1) (qmR Tryz.underlying4) (fun _=>rfl) rfl (by kernel_rfl) (qkI (m:=1) (qmR Tryz.underlying4) (fun _=>rfl) rfl (by kernel_rfl) (qkI (m:=1) (qmR Tryz.underlying4) (fun _=>rfl) rfl (by kernel_rfl) qmQ)))))))))))).map
  (fun p=>⟨p.1,p.2.1,p.2.2.1,p.2.2.2.1,p.2.2.2.2.1,p.2.2.2.2.2.1,p.2.2.2.2.2.2.1,p.2.2.2.2.2.2.2.1,p.2.2.2.2.2.2.2.2.1,p.2.2.2.2.2.2.2.2.2.1,p.2.2.2.2.2.2.2.2.2.2.1⟩) (fun _ h=>⟨⟨⟨h.2.2.2.2.1,wf32 h.2.2.1,wf64 h.2.2.2.2.2.2.1,h.2.1.2,h.2.2.2.1.2⟩,h.2.1.1⟩,rfl⟩)
theorem oArr:wL enc Tryz.prog w 31 (fun l:List Int=>l.length=6∧∀a ∈ l,(Lit.int .u64 a).wf=true) (fun l=>l.flatMap fun n=>[.i .u64 n]):=qkJ (m:=1) Tryz.underlying31 (qnO Tryz.underlying28) (by kernel_rfl) (by kernel_rfl)
theorem six:∀{l:List Int},l.length=6->∃a b c d e f,l=[a,b,c,d,e,f]
 | [a,b,c,d,e,f],_=>⟨a,b,c,d,e,f,rfl⟩
 | [],h=>by simp at h
 | [_],h=>by simp at h
 | [_,_],h=>by simp at h
 | [_,_,_],h=>by simp at h
 | [_,_,_,_],h=>by simp at h
 | [_,_,_,_,_],h=>by simp at h
 | _::_::_::_::_::_::_::_,h=>by simp at h
theorem oArr6:wL enc Tryz.prog w 31 (fun q:Int×Int×Int×Int×Int×Int=>U64 q.1∧U64 q.2.1∧U64 q.2.2.1) (fun q=>[.i .u64 q.1,.i .u64 q.2.1,.i .u64 q.2.2.1,.i .u64 q.2.2.2.1,.i .u64 q.2.2.2.2.1,.i .u64 q.2.2.2.2.2]) :=
 oArr.map (fun l=>(l.getD 0 0,l.getD 1 0,l.getD 2 0,l.getD 3 0,l.getD 4 0,l.getD 5 0)) (fun l h=>by
  obtain⟨a,b,c,d,e,f,rfl⟩:=six h.1;exact⟨⟨wf64 (h.2 a (by simp)),wf64 (h.2 b (by simp)),wf64 (h.2 c (by simp))⟩,rfl⟩)
theorem oData:wL enc Tryz.prog w 33 (fun x:GData=>DOk x) qI :=
 (qjO Tryz.underlying33 (by kernel_rfl) (qkI (m:=1) (qnO Tryz.underlying26) (fun _=>rfl) rfl (by kernel_rfl) (qkI (m:=1) (qnO Tryz.underlying26) (fun _=>rfl) rfl (by kernel_rfl) (qkI (m:=1) (qnO Tryz.underlying28) (fun _=>rfl) rfl (by kernel_rfl)
  (qkI (m:=6) oArr6 (fun _=>rfl) rfl (by kernel_rfl) qmQ))))).map
  (fun q=>⟨q.1,q.2.1,q.2.2.1,q.2.2.2.1.1,q.2.2.2.1.2.1,q.2.2.2.1.2.2.1,q.2.2.2.1.2.2.2.1,q.2.2.2.1.2.2.2.2.1,q.2.2.2.1.2.2.2.2.2⟩) (fun _ h=>⟨⟨h.2.2.2.1.1,h.2.2.2.1.2.1,h.2.2.2.1.2.2⟩,rfl⟩)
end
end Go.Proofs.YtpopmjgimhmciaaGreat.Args
