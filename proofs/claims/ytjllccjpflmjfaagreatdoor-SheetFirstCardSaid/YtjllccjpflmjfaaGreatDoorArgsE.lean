/- The arguments of the laws, opened: policies. No condition. -/
import Derived.Test.YtjllccjpflmjfaaGreatDoorVK3
import Derived.Test.YtjllccjpflmjfaaGreatDoorVK3
import Derived.Test.YtjllccjpflmjfaaGreatDoorVK3
import Derived.Test.YtjllccjpflmjfaaGreatDoorVK6
import Derived.Test.YtjllccjpflmjfaaGreatDoorVK3
import Derived.Test.YtjllccjpflmjfaaGreatDoorVK4
import Derived.Test.YtjllccjpflmjfaaGreatDoorProg
import Derived.KernelRfl
namespace Go.Proofs.YtjllccjpflmjfaaGreatDoor.Args
open Go.Kc
section
variable {H:Type} {enc:TypeId×Value->H} {w:World}
theorem kids:Kids Tryz.prog (· < Tryz.prog.types.size):=kids_rows Aa Aa
theorem full:∀t e,t<Tryz.prog.types.size->Tryz.prog.underlying t=some (.slice e)->0<Tryz.prog.cellsOf e:=slices_full_of Tryz.prog Aa
theorem wf8{n:Int}(h:(Lit.int .u8 n).wf=true):0<=n∧n<=255:=by
 have h':(decide (IntKind.u8.min<=n)&&decide (n<=IntKind.u8.max))=true:=h;exact Hw
theorem wf32{n:Int}(h:(Lit.int .u32 n).wf=true):0<=n∧n<=4294967295:=by
 have h':(decide (IntKind.u32.min<=n)&&decide (n<=IntKind.u32.max))=true:=h;exact Hw
theorem wf64{n:Int}(h:(Lit.int .u64 n).wf=true):0<=n∧n<18446744073709551616:=by
 have h':(decide (IntKind.u64.min<=n)&&decide (n<=IntKind.u64.max))=true:=h;simp only[Bool.and_eq_true,decide_eq_true_eq] at h';have e1:IntKind.u64.min=0:=Af
 have e2:IntKind.u64.max=18446744073709551615:=Af
 exact Ac
theorem oCall:qgm enc Tryz.prog w 44 (fun c:GCall=>0<=c.act∧c.act<=4294967295) jI :=
 (qCL Tryz.underlying44 Aa (qEl (m:=1) (qIM Tryz.underlying9) (fun _=>rfl) rfl Aa (qEl (m:=1) (qIL Tryz.underlying26) (fun _=>rfl) rfl Aa qHi))).map (fun p=>⟨p.1,p.2.1⟩) (fun _ h=>⟨wf32 h.2.1,rfl⟩)
theorem oList:qgm enc Tryz.prog w 25 (fun l:GList=>0<=l.mode∧Rng l.calls) qbC :=
 (qCL Tryz.underlying25 Aa (qEl (m:=1) (qIL Tryz.underlying5) (fun _=>rfl) rfl Aa
  (qEl (m:=1) (qEm Tryz.underlying23 oCall qdx Aa Af) (fun _=>rfl) rfl Aa qHi))).map (fun p=>⟨p.1,p.2.1⟩) (fun _ h=>⟨⟨(wf8 h.1).1,h.2.1.2⟩,rfl⟩)
theorem oIntsP:qgm enc Tryz.prog w 22 (fun _:List Int=>True) (fun l=>[.fz l.length (rI .i64 l)]) :=
 (qEm Tryz.underlying22 (qIL Tryz.underlying3) (m:=1) (fun _=>rfl) Aa Af).map (fun l=>l) (fun l _=>⟨trivial,by rw[qHA];rfl⟩)
theorem oU32s:qgm enc Tryz.prog w 27 (fun l:List Int=>∀x ∈ l,0<=x∧x<=4294967295) (fun l=>[.fz l.length (rI .u32 l)]) :=
 (qEm Tryz.underlying27 (qIL Tryz.underlying26) (m:=1) (fun _=>rfl) Aa Af).map (fun l=>l) (fun l h=>⟨fun x hx=>wf32 (h.2 x hx),by rw[qHA];rfl⟩)
theorem oPol:qgm enc Tryz.prog w 30 (fun p:Pol=>PolR p) qr :=
 (qCL Tryz.underlying30 Aa (qEl (m:=1) oIntsP (fun _=>rfl) rfl Aa (qEl (m:=2) oList (fun _=>rfl) rfl Aa (qEl (m:=1) (qIL Tryz.underlying26) (fun _=>rfl) rfl Aa
  (qEl (m:=2) oList (fun _=>rfl) rfl Aa (qEl (m:=1) oU32s (fun _=>rfl) rfl Aa (qEl (m:=1) (qIL Tryz.underlying5) (fun _=>rfl) rfl Aa (qEl (m:=1) (qIL Tryz.underlying28) (fun _=>rfl) rfl Aa
  (qEl (m:=1) (qHj Tryz.underlying4) (fun _=>rfl) rfl Aa (qEl (m:=1) (qHj Tryz.underlying4) (fun _=>rfl) rfl Aa (qEl (m:=1) (qHj Tryz.underlying4) (fun _=>rfl) rfl Aa (qEl (m:=1) (qHj Tryz.underlying4) (fun _=>rfl) rfl Aa qHi)))))))))))).map
  (fun p=>⟨p.1,p.2.1,p.2.2.1,p.2.2.2.1,p.2.2.2.2.1,p.2.2.2.2.2.1,p.2.2.2.2.2.2.1,p.2.2.2.2.2.2.2.1,p.2.2.2.2.2.2.2.2.1,p.2.2.2.2.2.2.2.2.2.1,p.2.2.2.2.2.2.2.2.2.2.1⟩) (fun _ h=>⟨⟨h.2.2.2.2.1,wf32 h.2.2.1,wf64 h.2.2.2.2.2.2.1,h.2.1.2,h.2.2.2.1.2⟩,rfl⟩)
end
end Go.Proofs.YtjllccjpflmjfaaGreatDoor.Args
