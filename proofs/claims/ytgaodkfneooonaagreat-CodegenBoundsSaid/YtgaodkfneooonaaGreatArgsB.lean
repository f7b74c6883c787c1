/- The arguments of the laws, opened: filters, data. No condition. -/
import Derived.Test.YtgaodkfneooonaaGreatBK6
import Derived.Test.YtgaodkfneooonaaGreatBK6
import Derived.Test.YtgaodkfneooonaaGreatBK6
import Derived.Test.YtgaodkfneooonaaGreatBK11
import Derived.Test.YtgaodkfneooonaaGreatProg
import Derived.KernelRfl
namespace Go.Proofs.YtgaodkfneooonaaGreat.Args
open Go.Kc
section
variable {H:Type} {enc:TypeId×Value->H} {w:World}
theorem kids:Kids Tryz.prog (· < Tryz.prog.types.size):=kids_rows (by kernel_rfl) (by kernel_rfl)
theorem full:∀t e,t<Tryz.prog.types.size->Tryz.prog.underlying t=some (.slice e)->0<Tryz.prog.cellsOf e:=slices_full_of Tryz.prog (by kernel_rfl)
theorem wf8{n:Int}(h:(Lit.int .u8 n).wf=true):0<=n∧n<=255:=by
 have h':(decide (IntKind.u8.min<=n)&&decide (n<=IntKind.u8.max))=true:=h;simp only[Bool.and_eq_true,decide_eq_true_eq] at h';exact h'
theorem wf16{n:Int}(h:(Lit.int .u16 n).wf=true):0<=n∧n<=65535:=by
 have h':(decide (IntKind.u16.min<=n)&&decide (n<=IntKind.u16.max))=true:=h;simp only[Bool.and_eq_true,decide_eq_true_eq] at h';exact h'
theorem wf32{n:Int}(h:(Lit.int .u32 n).wf=true):0<=n∧n<=4294967295:=by
 have h':(decide (IntKind.u32.min<=n)&&decide (n<=IntKind.u32.max))=true:=h;simp only[Bool.and_eq_true,decide_eq_true_eq] at h';exact h'
theorem wf64{n:Int}(h:(Lit.int .u64 n).wf=true):0<=n∧n<18446744073709551616:=by
 have h':(decide (IntKind.u64.min<=n)&&decide (n<=IntKind.u64.max))=true:=h;simp only[Bool.and_eq_true,decide_eq_true_eq] at h';have e1:IntKind.u64.min=0:=by decide
 have e2:IntKind.u64.max=18446744073709551615:=by decide
 omega
theorem oTest:qdg enc Tryz.prog w 56 (fun t:GTest=>(0<=t.mask∧t.mask<18446744073709551616∧0<=t.val∧t.val<18446744073709551616)∧0<=t.act∧t.act<=4294967295) zQ :=
 (qwB Tryz.underlying56 (by kernel_rfl) (qxT (m:=1) (qBQ Tryz.underlying3) (fun _=>rfl) rfl (by kernel_rfl) (qxT (m:=1) (qBQ Tryz.underlying26) (fun _=>rfl) rfl (by kernel_rfl) (qxT (m:=1) (qBQ Tryz.underlying26) (fun _=>rfl) rfl (by kernel_rfl)
  (qxT (m:=1) (qBQ Tryz.underlying23) (fun _=>rfl) rfl (by kernel_rfl) qAt))))).map (fun p=>⟨p.1,p.2.1,p.2.2.1,p.2.2.2.1⟩) (fun _ h=>⟨⟨⟨(wf64 h.2.1).1,(wf64 h.2.1).2,(wf64 h.2.2.1).1,(wf64 h.2.2.1).2⟩,wf32 h.2.2.2.1⟩,rfl⟩)
theorem oTests:qdC enc Tryz.prog w 39 (fun l:List GTest=>l.length<=4398046511104∧∀t ∈ l,(0<=t.mask∧t.mask<18446744073709551616∧0<=t.val∧t.val<18446744073709551616)∧0<=t.act∧t.act<=4294967295) (fun l=>[.fz l.length (rT l)]) :=
 (qwA Tryz.underlying39 oTest.ww qcE (by kernel_rfl) (by decide)).map (fun l=>l) (fun l h=>⟨⟨by
  have h1:=h.1;rw[show Tryz.prog.bytesOf 56=32 from by kernel_rfl] at h1
  unfold reachBytes at h1;omega,h.2⟩,rfl⟩)
theorem oRule:qdC enc Tryz.prog w 41 (fun r:GRule=>(r.tests.length<=4398046511104∧∀t ∈ r.tests,(0<=t.mask∧t.mask<18446744073709551616∧0<=t.val∧t.val<18446744073709551616)∧0<=t.act∧t.act<=4294967295)∧(0<=r.nr∧r.nr<=4294967295)∧0<=r.act∧r.act<=4294967295) qM :=
 (quH Tryz.underlying41 (by kernel_rfl) (qwz (m:=1) (qBQ Tryz.underlying23).ww (fun _=>rfl) rfl (by kernel_rfl) (qwz (m:=1) oTests (fun _=>rfl) rfl (by kernel_rfl) (qwz (m:=1) (qBQ Tryz.underlying23).ww (fun _=>rfl) rfl (by kernel_rfl) qxS)))).map
  (fun p=>⟨p.1,p.2.1,p.2.2.1⟩) (fun _ h=>⟨⟨h.2.1,wf32 h.1,wf32 h.2.2.1⟩,rfl⟩)
theorem oFil:qdC enc Tryz.prog w 25 (fun x:GFil=>FilB x∧FilR x∧FilU x) qS :=
 (quH Tryz.underlying25 (by kernel_rfl) (qwz (m:=1) (qBQ Tryz.underlying3).ww (fun _=>rfl) rfl (by kernel_rfl) (qwz (m:=1) (qwA Tryz.underlying22 oRule qaA (by kernel_rfl) (by decide)) (fun _=>rfl) rfl (by kernel_rfl) (qwz (m:=1) (qBQ Tryz.underlying23).ww (fun _=>rfl) rfl (by kernel_rfl) qxS)))).map
  (fun p=>⟨p.1,p.2.1,p.2.2.1⟩) (fun p h=>⟨⟨⟨by
   have h1:=h.2.1.1;rw[show Tryz.prog.bytesOf 41=40 from by kernel_rfl] at h1
   unfold reachBytes at h1;simp only;omega,fun r hr=>(h.2.1.2 r hr).1.1⟩,⟨fun r hr=>by have:=(h.2.1.2 r hr).2.1;omega,fun r hr t ht=>((h.2.1.2 r hr).1.2 t ht).1⟩,⟨wf32 h.2.2.1,fun r hr=>(h.2.1.2 r hr).2.2,fun r hr t ht=>((h.2.1.2 r hr).1.2 t ht).2⟩⟩,rfl⟩)
theorem oInts:qdg enc Tryz.prog w 51 (fun _:List Int=>True) (fun l=>[.fz l.length (rI .i64 l)]) :=
 (qxV Tryz.underlying51 (qBQ Tryz.underlying3) (m:=1) (fun _=>rfl) (by kernel_rfl) (by decide)).map (fun l=>l) (fun l _=>⟨trivial,by rw[qAE];rfl⟩)
theorem oArr:qdg enc Tryz.prog w 27 (fun l:List Int=>l.length=6∧∀a ∈ l,(Lit.int .u64 a).wf=true) (fun l=>l.flatMap fun n=>[.i .u64 n]):=qxU (m:=1) Tryz.underlying27 (qBQ Tryz.underlying26) (by kernel_rfl) (by kernel_rfl)
theorem six:∀{l:List Int},l.length=6->∃a b c d e f,l=[a,b,c,d,e,f]
 | [a,b,c,d,e,f],_=>⟨a,b,c,d,e,f,rfl⟩
 | [],h=>by simp at h
 | [_],h=>by simp at h
 | [_,_],h=>by simp at h
 | [_,_,_],h=>by simp at h
 | [_,_,_,_],h=>by simp at h
 | [_,_,_,_,_],h=>by simp at h
 | _::_::_::_::_::_::_::_,h=>by simp at h
def W64(n:Int):Prop:=0<=n∧n<18446744073709551616
theorem oArr6:qdg enc Tryz.prog w 27 (fun q:Int×Int×Int×Int×Int×Int=>W64 q.1∧W64 q.2.1∧W64 q.2.2.1∧W64 q.2.2.2.1∧W64 q.2.2.2.2.1∧W64 q.2.2.2.2.2) (fun q=>[.i .u64 q.1,.i .u64 q.2.1,.i .u64 q.2.2.1,.i .u64 q.2.2.2.1,.i .u64 q.2.2.2.2.1,.i .u64 q.2.2.2.2.2]) :=
 oArr.map (fun l=>(l.getD 0 0,l.getD 1 0,l.getD 2 0,l.getD 3 0,l.getD 4 0,l.getD 5 0)) (fun l h=>by
  obtain⟨a,b,c,d,e,f,rfl⟩:=six h.1;exact⟨⟨wf64 (h.2 a (by simp)),wf64 (h.2 b (by simp)),wf64 (h.2 c (by simp)),wf64 (h.2 d (by simp)),wf64 (h.2 e (by simp)),wf64 (h.2 f (by simp))⟩,rfl⟩)
theorem oData:qdg enc Tryz.prog w 29 (fun x:GData=>DatOk x) qw :=
 (qwB Tryz.underlying29 (by kernel_rfl) (qxT (m:=1) (qBQ Tryz.underlying23) (fun _=>rfl) rfl (by kernel_rfl) (qxT (m:=1) (qBQ Tryz.underlying23) (fun _=>rfl) rfl (by kernel_rfl) (qxT (m:=1) (qBQ Tryz.underlying26) (fun _=>rfl) rfl (by kernel_rfl)
  (qxT (m:=6) oArr6 (fun _=>rfl) rfl (by kernel_rfl) qAt))))).map
  (fun q=>⟨q.1,q.2.1,q.2.2.1,q.2.2.2.1.1,q.2.2.2.1.2.1,q.2.2.2.1.2.2.1,q.2.2.2.1.2.2.2.1,q.2.2.2.1.2.2.2.2.1,q.2.2.2.1.2.2.2.2.2⟩) (fun q h=>⟨⟨(wf32 h.1).1,(wf32 h.1).2,(wf32 h.2.1).1,(wf32 h.2.1).2,by
   obtain⟨h1,h2,h3,h4,h5,h6⟩:=h.2.2.2.1;intro x hx;simp only[qkC,List.mem_cons,List.not_mem_nil,or_false] at hx;rcases hx with rfl|rfl|rfl|rfl|rfl|rfl|rfl
   ·exact wf64 h.2.2.1
   ·exact h1
   ·exact h2
   ·exact h3
   ·exact h4
   ·exact h5
   ·exact h6⟩,rfl⟩)
end
end Go.Proofs.YtgaodkfneooonaaGreat.Args
