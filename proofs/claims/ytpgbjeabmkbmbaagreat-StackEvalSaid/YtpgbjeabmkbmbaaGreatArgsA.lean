/- The arguments of the laws, opened: stacks of programs, bytes, data. No condition. -/
import Derived.Test.YtpgbjeabmkbmbaaGreatEK6
import Derived.Test.YtpgbjeabmkbmbaaGreatEK6
import Derived.Test.YtpgbjeabmkbmbaaGreatEK8
import Derived.Test.YtpgbjeabmkbmbaaGreatEnvR
import Derived.KernelRfl
namespace Go.Proofs.YtpgbjeabmkbmbaaGreat.Args
open Go.Kc
section
variable {H:Type} {enc:TypeId×Value->H} {w:World}
theorem kids:Kids Tryz.prog (· < Tryz.prog.types.size):=kids_rows (by kernel_rfl) (by kernel_rfl)
theorem full:∀t e,t<Tryz.prog.types.size->Tryz.prog.underlying t=some (.slice e)->0<Tryz.prog.cellsOf e:=slices_full_of Tryz.prog (by kernel_rfl)
theorem wf8{n:Int}(h:(Lit.int .u8 n).wf=true):0<=n∧n<=255:=by
 have h':(decide (IntKind.u8.min<=n)&&decide (n<=IntKind.u8.max))=true:=h;simp only[Bool.and_eq_true,decide_eq_true_eq] at h';exact h'
theorem wf16{n:Int}(h:(Lit.int .u16 n).wf=true):0<=n∧n<=65535:=by
 have h':(decide (IntKind.u16.min<=n)&&decide (n<=IntKind.u16.max))=true:=h;simp only[Bool.and_eq_true,decide_eq_true_eq] at h';exact h'
theorem wf32{n:Int}(h:(Lit.int .u32 n).wf=true):0<=n∧n<=4294967295:=by
 have h':(decide (IntKind.u32.min<=n)&&decide (n<=IntKind.u32.max))=true:=h;simp only[Bool.and_eq_true,decide_eq_true_eq] at h';exact h'
theorem wf64{n:Int}(h:(Lit.int .u64 n).wf=true):0<=n∧n<18446744073709551616:=by
 have h':(decide (IntKind.u64.min<=n)&&decide (n<=IntKind.u64.max))=true:=h;simp only[Bool.and_eq_true,decide_eq_true_eq] at h';have e1:IntKind.u64.min=0:=by decide
 have e2:IntKind.u64.max=18446744073709551615:=by decide
 omega
theorem oIns:kH enc Tryz.prog w 94 (fun i:Ins=>InsOk i) qt :=
 (qkO Tryz.underlying94 (by kernel_rfl) (qlG (m:=1) (qo5 Tryz.underlying55) (fun _=>rfl) rfl (by kernel_rfl) (qlG (m:=1) (qo5 Tryz.underlying5) (fun _=>rfl) rfl (by kernel_rfl) (qlG (m:=1) (qo5 Tryz.underlying5) (fun _=>rfl) rfl (by kernel_rfl)
  (qlG (m:=1) (qo5 Tryz.underlying23) (fun _=>rfl) rfl (by kernel_rfl) qn7))))).map (fun p=>⟨p.1,p.2.1,p.2.2.1,p.2.2.2.1⟩) (fun _ h=>⟨⟨(wf16 h.1).1,(wf16 h.1).2,(wf8 h.2.1).1,(wf8 h.2.1).2,(wf8 h.2.2.1).1,(wf8 h.2.2.1).2,(wf32 h.2.2.2.1).1,(wf32 h.2.2.2.1).2⟩,rfl⟩)
theorem oRowI:kH enc Tryz.prog w 46 (fun l:List Ins=>l.length<=9223372036854775807∧∀i ∈ l,InsOk i) (fun l=>[.fz l.length (rP l)]) :=
 (qlI Tryz.underlying46 oIns jP (by kernel_rfl) (by decide)).map (fun l=>l) (fun l h=>⟨h,rfl⟩)
theorem oPrg:kH enc Tryz.prog w 48 (fun x:Prg=>PrgIn x) cPr :=
 (qkO Tryz.underlying48 (by kernel_rfl) (qlG (m:=1) (qo5 Tryz.underlying3) (fun _=>rfl) rfl (by kernel_rfl) (qlG (m:=1) (qo5 Tryz.underlying3) (fun _=>rfl) rfl (by kernel_rfl) (qlG (m:=1) oRowI (fun _=>rfl) rfl (by kernel_rfl) qn7)))).map
  (fun p=>⟨p.1,p.2.1,p.2.2.1⟩) (fun _ h=>⟨⟨h.2.2.1.1,h.2.2.1.2⟩,rfl⟩)
theorem oStk:kH enc Tryz.prog w 22 (fun l:List Prg=>l.length<=9223372036854775807∧∀x ∈ l,PrgIn x) (fun l=>[.fz l.length (rPr l)]) :=
 (qlI Tryz.underlying22 oPrg yU (by kernel_rfl) (by decide)).map (fun l=>l) (fun l h=>⟨h,rfl⟩)
theorem oArr:kH enc Tryz.prog w 25 (fun l:List Int=>l.length=6∧∀a ∈ l,(Lit.int .u64 a).wf=true) (fun l=>l.flatMap fun n=>[.i .u64 n]):=qlH (m:=1) Tryz.underlying25 (qo5 Tryz.underlying24) (by kernel_rfl) (by kernel_rfl)
theorem six:∀{l:List Int},l.length=6->∃a b c d e f,l=[a,b,c,d,e,f]
 | [a,b,c,d,e,f],_=>⟨a,b,c,d,e,f,rfl⟩
 | [],h=>by simp at h
 | [_],h=>by simp at h
 | [_,_],h=>by simp at h
 | [_,_,_],h=>by simp at h
 | [_,_,_,_],h=>by simp at h
 | [_,_,_,_,_],h=>by simp at h
 | _::_::_::_::_::_::_::_,h=>by simp at h
def W64(n:Int):Prop:=0<=n∧n<18446744073709551616
theorem oArr6:kH enc Tryz.prog w 25 (fun q:Int×Int×Int×Int×Int×Int=>W64 q.1∧W64 q.2.1∧W64 q.2.2.1∧W64 q.2.2.2.1∧W64 q.2.2.2.2.1∧W64 q.2.2.2.2.2) (fun q=>[.i .u64 q.1,.i .u64 q.2.1,.i .u64 q.2.2.1,.i .u64 q.2.2.2.1,.i .u64 q.2.2.2.2.1,.i .u64 q.2.2.2.2.2]) :=
 oArr.map (fun l=>(l.getD 0 0,l.getD 1 0,l.getD 2 0,l.getD 3 0,l.getD 4 0,l.getD 5 0)) (fun l h=>by
  obtain⟨a,b,c,d,e,f,rfl⟩:=six h.1;exact⟨⟨wf64 (h.2 a (by simp)),wf64 (h.2 b (by simp)),wf64 (h.2 c (by simp)),wf64 (h.2 d (by simp)),wf64 (h.2 e (by simp)),wf64 (h.2 f (by simp))⟩,rfl⟩)
theorem oData:kH enc Tryz.prog w 27 (fun x:GData=>DatOk x) qP :=
 (qkO Tryz.underlying27 (by kernel_rfl) (qlG (m:=1) (qo5 Tryz.underlying23) (fun _=>rfl) rfl (by kernel_rfl) (qlG (m:=1) (qo5 Tryz.underlying23) (fun _=>rfl) rfl (by kernel_rfl) (qlG (m:=1) (qo5 Tryz.underlying24) (fun _=>rfl) rfl (by kernel_rfl)
  (qlG (m:=6) oArr6 (fun _=>rfl) rfl (by kernel_rfl) qn7))))).map
  (fun q=>⟨q.1,q.2.1,q.2.2.1,q.2.2.2.1.1,q.2.2.2.1.2.1,q.2.2.2.1.2.2.1,q.2.2.2.1.2.2.2.1,q.2.2.2.1.2.2.2.2.1,q.2.2.2.1.2.2.2.2.2⟩) (fun q h=>⟨⟨(wf32 h.1).1,(wf32 h.1).2,(wf32 h.2.1).1,(wf32 h.2.1).2,by
   obtain⟨h1,h2,h3,h4,h5,h6⟩:=h.2.2.2.1;intro x hx;simp only[qdT,List.mem_cons,List.not_mem_nil,or_false] at hx;rcases hx with rfl|rfl|rfl|rfl|rfl|rfl|rfl
   ·exact wf64 h.2.2.1
   ·exact h1
   ·exact h2
   ·exact h3
   ·exact h4
   ·exact h5
   ·exact h6⟩,rfl⟩)
theorem oBytes:kH enc Tryz.prog w 32 (fun l:List Int=>l.length<=9223372036854775807∧qG l) (fun l=>[.fz l.length (rB l)]) :=
 (qlI Tryz.underlying32 (qo5 Tryz.underlying5) (m:=1) (fun _=>rfl) (by kernel_rfl) (by decide)).map (fun l=>l) (fun l h=>⟨⟨h.1,fun x hx=>wf8 (h.2 x hx)⟩,by rw[qog];rfl⟩)
end
end Go.Proofs.YtpgbjeabmkbmbaaGreat.Args
