/- Bytes and rows of strings as arguments, opened. No condition. -/
import Derived.Test.YtoekfdofbagoiaaGreatDoorK6
import Derived.Test.YtoekfdofbagoiaaGreatDoorK6
import Derived.Test.YtoekfdofbagoiaaGreatDoorProg
import Derived.KernelRfl
namespace Go.Proofs.YtoekfdofbagoiaaGreatDoor.Args
open Go.Kc
section
variable {H:Type} {enc:TypeId×Value->H} {w:World}
theorem kids:Kids Tryz.prog (· < Tryz.prog.types.size):=kids_rows (by kernel_rfl) (by kernel_rfl)
theorem full:∀t e,t<Tryz.prog.types.size->Tryz.prog.underlying t=some (.slice e)->0<Tryz.prog.cellsOf e:=slices_full_of Tryz.prog (by kernel_rfl)
theorem wf8{n:Int}(h:(Lit.int .u8 n).wf=true):0<=n∧n<=255:=by
 have h':(decide (IntKind.u8.min<=n)&&decide (n<=IntKind.u8.max))=true:=h;simp only[Bool.and_eq_true,decide_eq_true_eq] at h';exact h'
theorem rS_flatMap:∀l:List (List UInt8),l.flatMap (fun s=>[AV.s s])=rS l
 | []=>rfl
 | x::l=>by rw[List.flatMap_cons,rS_flatMap l];rfl
theorem bR_flatMap:∀l:List UInt8,l.flatMap (fun c=>[AV.i .u8 ((c.toNat:Nat):Int)])=bR l
 | []=>rfl
 | x::l=>by rw[List.flatMap_cons,bR_flatMap l];rfl
theorem oByte:qaf enc Tryz.prog w 5 (fun _:UInt8=>True) (fun c=>[.i .u8 ((c.toNat:Nat):Int)]) :=
 (qmR Tryz.underlying5).map (fun n=>UInt8.ofNat n.toNat) (fun n h=>⟨trivial,by
  have:=wf8 h;rw[UInt8.toNat_ofNat',Nat.mod_eq_of_lt (by omega),Int.toNat_of_nonneg this.1]⟩)
theorem oBytes:qaf enc Tryz.prog w 22 (fun _:List UInt8=>True) (fun l=>[.fz l.length (bR l)]) :=
 (qke Tryz.underlying22 oByte (m:=1) (fun _=>rfl) (by kernel_rfl) (by decide)).map (fun l=>l) (fun l _=>⟨trivial,by rw[bR_flatMap]⟩)
theorem oStrs:qaf enc Tryz.prog w 29 (fun _:List (List UInt8)=>True) (fun l=>[.fz l.length (rS l)]) :=
 (qke Tryz.underlying29 (qmS Tryz.underlying9) (m:=1) (fun _=>rfl) (by kernel_rfl) (by decide)).map (fun l=>l) (fun l _=>⟨trivial,by rw[rS_flatMap]⟩)
end
end Go.Proofs.YtoekfdofbagoiaaGreatDoor.Args
