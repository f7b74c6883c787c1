/- The code that a run reaches, as the abstract machine's; it is the program's. No condition. -/
import Derived.Test.YtgaodkfneooonaaGreatMK3
import Derived.Test.YtgaodkfneooonaaGreatMK4
import Derived.Test.YtgaodkfneooonaaGreatProg
import Derived.KernelRfl
set_option maxRecDepth 1000000
namespace Go.Proofs.YtgaodkfneooonaaGreat.EnvU
open Go.Kc
def e138:IFn:=irJ 138 []
def e141:IFn:=irJ 141 []
def e200:IFn:=irJ 200 []
def e201:IFn:=irJ 201 []
def env:Tr IFn:=(.o (.o .leaf (.o (.o .leaf (.o (.o (.o .leaf (.f e201)) .leaf) .leaf)) (.o .leaf (.o (.o (.o (.f e141) .leaf) .leaf) .leaf)))) (.o (.o (.o .leaf (.o (.o (.o .leaf (.f e200)) .leaf) .leaf)) .leaf) (.o (.o .leaf (.o (.o (.o (.f e138) .leaf) .leaf) .leaf)) .leaf)))
theorem envOk:qlr Tryz.prog env:=qLn Ad
noncomputable def extH:qkQ:=fun _ _=>none
theorem extOk:qmx Tryz.prog extH:=fun _ _ _ h=>by cases h
theorem go{f:Nat}{vs:List AV}{r:AV}(hc:qt vs=true)(h:∀n,n=1000000->qiM env extH (fv env extH n) f vs H0 (fun v h=>tt (qcQ h r v))=True):qc Tryz.prog f vs r:=qc.runF envOk extOk 1000000 hc (h _ rfl)
theorem table9:qc Tryz.prog 200 [] (.fz 40 (qho.flatMap qv0)):=go rfl (by rintro n rfl;exact Ad)
theorem all9r:qwU Tryz.prog 138:=by
 intro a h0 h6;have h:a=0∨a=1∨a=2∨a=3∨a=4∨a=5:=Ab
 rcases h with rfl|rfl|rfl|rfl|rfl|rfl<;>exact go rfl (by rintro n rfl;exact Ad)
theorem all02:qc Tryz.prog 141 [] (.fz 41 (qbi.flatMap wR)):=go rfl (by rintro n rfl;exact Ad)
end Go.Proofs.YtgaodkfneooonaaGreat.EnvU
