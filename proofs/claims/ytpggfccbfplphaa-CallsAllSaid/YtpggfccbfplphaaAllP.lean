/- For every architecture the law CallsAll answers true, and its argument reads as before. No condition. -/
import Derived.Test.YtpggfccbfplphaaAll0
import Derived.Test.YtpggfccbfplphaaAll2
import Derived.Test.YtpggfccbfplphaaAll4
import Derived.Test.YtpggfccbfplphaaOk
import Derived.Test.YtpggfccbfplphaaRows
import Derived.WalkKit
import Derived.ProofKit
import Derived.OpenShut
namespace Go.Proofs.Ytpggfccbfplphaa.callsAll
open Go.Ab Go.ChangeShapes Go.WideShapes Go.ChangeAt Go.RowKit

theorem own : ownKnob Try.prog.godebug = none := by kernel_rfl

def lowAt (j : Nat) : At := match j with | 0 => .int .i64 (-9223372036854775808) (-1) [] | _ => .bool
def highAt (j : Nat) : At := match j with | 0 => .int .i64 6 9223372036854775807 [] | _ => .bool
def sig (a : Int) (j : Nat) : Value := match j with | 0 => .int .i64 a | _ => .bool false
theorem rLow : (callK Ir.env (awp (atOrc lowAt) Ir.env 1000000) 4 [.sym 0] hp0 (fun v _ => yes v)) = True := by kernel_rfl
theorem rHigh : (callK Ir.env (awp (atOrc highAt) Ir.env 1000000) 4 [.sym 0] hp0 (fun v _ => yes v)) = True := by kernel_rfl

theorem at0 : ∀ j, AtOk (fun _ => .bool false) j .bool := fun _ => ⟨false, rfl⟩

theorem run2 {σ : Nat → Value} {orc : Orc} {env : Tr IFn} (horc : OrcOk σ orc) (henv : EnvOk Try.prog env) {n f : Nat} {vs : List AV} {args : Array Value} (hk : (callK env (awp orc env n) f vs hp0 (fun v _ => yes v)) = True)
    (ha : ∀ ρ, VRs σ ρ vs args.toList) (w : World) : Calls Try.prog f args w fun e w' => e = .returned (.bool true) ∧ ∀ may, w.keptBut w' may :=
  law_run horc henv n (of_eq_true hk) ha w

theorem fin {ats : Nat → At} {σ : Nat → Value} (h : ∀ j, AtOk σ j (ats j)) {x : AV} (hx : (callK Ir.env (awp (atOrc ats) Ir.env 1000000) 4 [x] hp0 (fun v _ => yes v)) = True) {v : Value} (hv : ∀ ρ, VR σ ρ x v) (w : World) :
    Calls Try.prog 4 #[v] w fun e w' => e = .returned (.bool true) ∧ ∀ may, w.keptBut w' may := by
  exact run2 (orc := atOrc ats) (env := Ir.env) (n := 1000000) (f := 4) (vs := [x]) (args := #[v]) (σ := σ) (atOrc_ok h) Ir.envOk hx (fun ρ => .cons _ _ _ _ (hv ρ) .nil) w

theorem walk (a0 : Int) (w0 : (Lit.int .i64 a0).wf = true) (w : World) :
    Calls Try.prog 4 #[.int .i64 a0] w fun e w' => e = .returned (.bool true) ∧ ∀ may, w.keptBut w' may := by
  have hb : -9223372036854775808 ≤ a0 ∧ a0 ≤ 9223372036854775807 := by
    simp only [Lit.wf, Bool.and_eq_true, decide_eq_true_eq] at w0
    exact w0
  by_cases h1 : a0 < 0
  · refine fin (σ := sig a0) (ats := lowAt) (fun j => ?_) rLow (fun ρ => .sym 0) w
    match j with
    | 0 => exact ⟨a0, rfl, hb.1, (by omega), (by intro m hm; cases hm)⟩
    | j + 1 => exact ⟨false, rfl⟩
  · by_cases h2 : 6 ≤ a0
    · refine fin (σ := sig a0) (ats := highAt) (fun j => ?_) rHigh (fun ρ => .sym 0) w
      match j with
      | 0 => exact ⟨a0, rfl, h2, hb.2, (by intro m hm; cases hm)⟩
      | j + 1 => exact ⟨false, rfl⟩
    · have : a0 = 0 ∨ a0 = 1 ∨ a0 = 2 ∨ a0 = 3 ∨ a0 = 4 ∨ a0 = 5 := by omega
      rcases this with h | h | h | h | h | h <;> subst h
      · exact fin at0 r0 (fun ρ => .i _ _) w
      · exact fin at0 r1 (fun ρ => .i _ _) w
      · exact fin at0 r2 (fun ρ => .i _ _) w
      · exact fin at0 r3 (fun ρ => .i _ _) w
      · exact fin at0 r4 (fun ρ => .i _ _) w
      · exact fin at0 r5 (fun ρ => .i _ _) w

set_option maxRecDepth 100000 in
theorem lifted (os : Os) (started : os.Started) (H : Type) (enc : TypeId × Value → H) :
    ReturnsInHanded {} Try.checked os 4 .any (Rows.callsAllSpec.pre6 enc Try.prog Try.f4 Rows.callsAllRow.domain false) (Rows.callsAllSpec.post enc Try.prog Try.f4 false true false false) := by
  refine returnsInHanded_of_change (C := Try.checked) own started (by kernel_rfl) Try.func4
    (ChangeSpec.witness6 (enc := enc) (C := Try.checked) false ⟨#[], #[.int .i64 0], []⟩ 8 (by kernel_rfl) (by kernel_rfl) (by kernel_rfl) (by kernel_rfl)) ?_
  intro W base args ds gs before hval0 hW hcnd _
  have hval : ∀ (j : Nat) t v, Try.f4.params[j]? = some t → args[j]? = some v → Value.okWide Try.prog W .any base t v := hval0
  have hW' := hW
  obtain ⟨p, q, hA0, hV, rfl, hfz, hnd⟩ := hW
  have hA : DataW.TrodAll enc Try.prog W 0 (fun _ => true) true Try.f4.params.toList args.toList ds p := hA0
  rw [Try.params4] at hA hval
  obtain ⟨v0, vs0, d0, ds0, p0, q0, hargs, rfl, rfl, h0, r0⟩ := trodAll_cons hA
  obtain ⟨rfl, rfl, rfl⟩ := trodAll_nil r0
  obtain rfl : args = #[v0] := by cases args; simp_all
  obtain ⟨rfl, rfl⟩ := trodVars_none hV
  obtain ⟨a0, rfl, rfl, rfl, w0⟩ := open_int Try.underlying3 (hval 0 3 v0 rfl rfl) h0
  clear hA0 hval0
  simp only [List.append_nil] at hW'
  refine (walk a0 w0 W).mono fun e W' ⟨he, hg⟩ => ?_
  subst he
  exact ⟨_, rfl, post_of_kept (pa := []) (pv := []) hW' (fun _ _ _ => (trodAll_cons_mk (shut_bool Try.underlying4 _) trodAll_mk0)) (fun sp => (trodAll_cons_mk (shut_int Try.underlying3 w0) trodAll_mk0)) (fun _ => rfl) hg⟩

theorem over : Rows.callsAllRow.holds Try.pinned (OpenSpec.ofChange Rows.callsAllSpec) :=
  OpenClaim.holds_of_wide 4 Try.f4 rfl rfl rfl rfl rfl rfl rfl ⟨rfl, rfl, rfl, rfl, rfl⟩ rfl rfl rfl rfl rfl (by kernel_rfl) Try.func4 (by kernel_rfl)
    (of_decide_eq_true (by kernel_rfl)) (by unfold Func.isWrapper; first | (rw [if_pos (by decide +kernel)]; kernel_rfl) | (rw [if_neg (by decide +kernel)]; exact ⟨rfl, rfl⟩))
    (fun os started H enc _ => lifted os started H enc)

theorem proved : Rows.CallsAllSaid :=
  over
#print axioms proved
end Go.Proofs.Ytpggfccbfplphaa.callsAll
