/- The laws of calls answer true where their runs do: tables of answers, architectures, names, numbers. Condition: sizes and numbers are as their types allow. -/
import Derived.Test.YtpggfccbfplphaaRuns
import Derived.Test.YtpggfccbfplphaaFact
namespace Go.Proofs.Ytpggfccbfplphaa.Tab
open Go.Ab

/-- an oracle that knows nothing -/
theorem noAt_ok {P : Program} {σ : Nat → Value} {orc : Orc} (h : OrcOk P σ orc) : OrcOk P σ (atOrc fun _ => .bool) := by
  refine ⟨h.atoms, ?_, (by intro _ _ h; cases h), (by intro _ _ _ h; cases h), (by intro _ _ _ h; cases h), h.prim⟩
  intro op x y r hr
  exfalso
  have hr' : atBin (fun _ => .bool) op x y = some r := hr
  cases x <;> cases y <;> cases hr'
theorem knw_in {σ : Nat → Value} {x : List UInt8} (h : Both 15 16 #[.string ⟨x.toArray⟩] (.bool true)) : Knows Try.prog σ 15 [.s x] (.val (.b true)) :=
  h.1.knows (fun _ _ ha => args1 ha (fun _ h => h.un_s)) (fun _ => .b _)
theorem num_in {σ : Nat → Value} {a x e : Int} {s : List UInt8} (h : Both 11 12 #[.int .i64 a, .string ⟨s.toArray⟩] (.tuple #[.int .u32 x, .int .i64 e])) : Knows Try.prog σ 11 [.i .i64 a, .s s] (.val (.tup [.i .u32 x, .i .i64 e])) :=
  h.1.knows (fun _ _ ha => args2 ha (fun _ h => h.un_i) (fun _ h => h.un_s)) (fun _ => .tup _ _ (.cons _ _ _ _ (.i _ _) (.cons _ _ _ _ (.i _ _) .nil)))
theorem nam_in {σ : Nat → Value} {a x : Int} {s : List UInt8} (h : Both 17 18 #[.int .i64 a, .int .u32 x] (.string ⟨s.toArray⟩)) : Knows Try.prog σ 17 [.i .i64 a, .i .u32 x] (.val (.s s)) :=
  h.1.knows (fun _ _ ha => args2 ha (fun _ h => h.un_i) (fun _ h => h.un_i)) (fun _ => .s _)
theorem nam_inU {σ : Nat → Value} {a x : Int} {s : List UInt8} (h1 : σ 1 = .int .u32 x) (h : Both 17 18 #[.int .i64 a, .int .u32 x] (.string ⟨s.toArray⟩)) : Knows Try.prog σ 17 [.i .i64 a, .sym 1] (.val (.s s)) :=
  h.1.knows (fun _ _ ha => args2 ha (fun _ h => h.un_i) (fun _ h => by rw [h.un_sym, h1])) (fun _ => .s _)
theorem restT_ok {σ : Nat → Value} {orc : Orc} (horc : OrcOk Try.prog σ orc) {l : List (List UInt8)} (h : ∀ x ∈ l, Both 15 16 #[.string ⟨x.toArray⟩] (.bool true)) {n : Nat} (hr : (callK Ir.env (awp (atOrc fun _ => .bool) Ir.env n) 13 [] hp0 (rowIs 1 40 rowN)) = True) : ∀ e ∈ restT l, Knows Try.prog σ e.1 e.2.1 e.2.2 := by
  intro e he
  rcases List.mem_cons.1 he with rfl | he
  · exact awakeR.knows (fun _ _ ha => args0 ha) (fun _ => .b _)
  · rcases List.mem_cons.1 he with rfl | he
    · exact fact_row (noAt_ok horc) Ir.envOk n (by simp [eqL]) hr
    · obtain ⟨x, hx, rfl⟩ := List.mem_map.1 he
      exact knw_in (h x hx)
theorem numT_ok {σ : Nat → Value} {a : Int} {l : List (List UInt8 × Int × Int)} (h : ∀ x ∈ l, Both 11 12 #[.int .i64 a, .string ⟨x.1.toArray⟩] (.tuple #[.int .u32 x.2.1, .int .i64 x.2.2])) : ∀ e ∈ numT (.i .i64 a) l, Knows Try.prog σ e.1 e.2.1 e.2.2 := by
  intro e he
  obtain ⟨x, hx, rfl⟩ := List.mem_map.1 he
  exact num_in (h x hx)
theorem namT_ok {σ : Nat → Value} {a : Int} {l : List (Int × List UInt8)} (h : ∀ x ∈ l, Both 17 18 #[.int .i64 a, .int .u32 x.1] (.string ⟨x.2.toArray⟩)) : ∀ e ∈ namT (.i .i64 a) l, Knows Try.prog σ e.1 e.2.1 e.2.2 := by
  intro e he
  obtain ⟨x, hx, rfl⟩ := List.mem_map.1 he
  exact nam_in (h x hx)
theorem oneT_ok {σ : Nat → Value} {orc : Orc} (horc : OrcOk Try.prog σ orc) {a : Int} {l : List (List UInt8 × Int × Int)} {k : List (Int × List UInt8)} {N : Nat} {c : List (Int × List UInt8)} {n m : Nat}
    (hw : ∀ x ∈ names, Both 15 16 #[.string ⟨x.toArray⟩] (.bool true)) (hl : ∀ x ∈ l, Both 11 12 #[.int .i64 a, .string ⟨x.1.toArray⟩] (.tuple #[.int .u32 x.2.1, .int .i64 x.2.2])) (hk : ∀ x ∈ k, Both 17 18 #[.int .i64 a, .int .u32 x.1] (.string ⟨x.2.toArray⟩))
    (hr : (callK Ir.env (awp (atOrc fun _ => .bool) Ir.env n) 13 [] hp0 (rowIs 1 40 rowN)) = True) (hA : (callK Ir.env (awp (atOrc fun _ => .bool) Ir.env m) 20 [.i .i64 a] hp0 (rowIs 2 N (cells c))) = True) : ∀ e ∈ oneT a l k N c, Knows Try.prog σ e.1 e.2.1 e.2.2 := by
  intro e he
  rcases List.mem_cons.1 he with rfl | he
  · exact fact_row (noAt_ok horc) Ir.envOk m (by simp [eqL, eq1_i]) hA
  · rcases List.mem_append.1 he with he | he
    · exact restT_ok horc hw hr e he
    · rcases List.mem_append.1 he with he | he
      · exact numT_ok hl e he
      · exact namT_ok hk e he
theorem u64_in (w : Int) : 0 ≤ IntKind.wrap .u64 w ∧ IntKind.wrap .u64 w ≤ 18446744073709551615 := by
  simp only [IntKind.wrap, IntKind.bits, IntKind.signed]
  constructor <;> simp <;> omega
def sgO (a nr : Int) (j : Nat) : Value := match j with | 0 => .int .i64 a | 1 => .int .u32 nr | 2 => .int .u64 (IntKind.wrap .u64 a) | _ => .bool false
theorem sgO_ok {a nr : Int} {ne : List Int} (ha : -9223372036854775808 ≤ a ∧ a ≤ 9223372036854775807) (hr : 0 ≤ nr ∧ nr ≤ 4294967295) (hn : nr ∉ ne) : ∀ j, AtOk (sgO a nr) j (oneAt ne j)
  | 0 => ⟨a, rfl, ha.1, ha.2, (by intro m hm; cases hm)⟩
  | 1 => ⟨nr, rfl, hr.1, hr.2, fun _ hm e => hn (e ▸ hm)⟩
  | 2 => ⟨_, rfl, (u64_in a).1, (u64_in a).2, (by intro m hm; cases hm)⟩
  | _ + 3 => ⟨false, rfl⟩
theorem remd {σ : Nat → Value} {n m r : Int} (hm : m ≠ 0) (h : n.tmod m = r) {ρ : Ren} : ∃ r', VR σ ρ (.i .u64 r) r' ∧ ∀ (P : Program) t w, (binOp .rem t (.int .u64 n) (.int .u64 m)).run P w = .ok r' w :=
  ⟨_, .i _ _, fun P t w => by subst h; simp [binOp, Op.intDiv, hm]⟩
theorem oneOrc_ok {v nr a : Int} {ne : List Int} {tab : List (Nat × List AV × Ans)} (hv : -9223372036854775808 ≤ v ∧ v ≤ 9223372036854775807) (hr : 0 ≤ nr ∧ nr ≤ 4294967295) (hn : nr ∉ ne) (ha : (IntKind.wrap .u64 v).tmod 6 = a)
    (ht : ∀ e ∈ tab, Knows Try.prog (sgO v nr) e.1 e.2.1 e.2.2) : OrcOk Try.prog (sgO v nr) (oneOrc ne a tab) := by
  refine (((atOrc_ok (sgO_ok hv hr hn)).cvs ?_).bins ?_).calls ht
  · intro e he
    obtain rfl := List.mem_singleton.1 he
    exact ⟨_, v, rfl, fun ρ => .sym 2⟩
  · intro e he ρ x' y' hx hy
    obtain rfl := List.mem_singleton.1 he
    rw [hx.un_sym, hy.un_i]
    exact remd (by decide) ha
def YesO (v nr : Int) : Prop := ∀ w : World, Calls Try.prog 5 #[.int .i64 v, .int .u32 nr] w fun e w' => e = .returned (.bool true) ∧ ∀ may, w.keptBut w' may
theorem oneArch {n1 n2 n3 n4 n5 : Nat} {a : Int} {l : List (List UInt8 × Int × Int)} {k : List (Int × List UInt8)} {N : Nat} {c : List (Int × List UInt8)}
    (hNum : allK l (fun x q => ansK (atOrc fun _ => .bool) Ir.env n1 11 [.i .i64 a, .s x.1] (.tup [.i .u32 x.2.1, .i .i64 x.2.2]) (ansK (atOrc fun _ => .bool) Ir.env n1 12 [.i .i64 a, .s x.1] (.tup [.i .u32 x.2.1, .i .i64 x.2.2]) q)) = True)
    (hNam : allK k (fun x q => ansK ((atOrc fun _ => .bool).calls (tabOf a l)) Ir.env n2 17 [.i .i64 a, .i .u32 x.1] (.s x.2) (ansK ((atOrc fun _ => .bool).calls (tabOf a l)) Ir.env n2 18 [.i .i64 a, .i .u32 x.1] (.s x.2) q)) = True)
    (hU : ansK ((atOrc (nrAt (k.map (·.1)))).calls (tabOf a l)) Ir.env n2 17 [.i .i64 a, .sym 0] (.s []) (ansK ((atOrc (nrAt (k.map (·.1)))).calls (tabOf a l)) Ir.env n2 18 [.i .i64 a, .sym 0] (.s []) True) = True)
    (hr : (callK Ir.env (awp (atOrc fun _ => .bool) Ir.env n3) 13 [] hp0 (rowIs 1 40 rowN)) = True) (hA : (callK Ir.env (awp (atOrc fun _ => .bool) Ir.env n4) 20 [.i .i64 a] hp0 (rowIs 2 N (cells c))) = True)
    (hw : ∀ x ∈ names, Both 15 16 #[.string ⟨x.toArray⟩] (.bool true))
    (hK : allK k (fun x q => yesK (oneOrc [] a (oneT a l k N c)) Ir.env n5 5 [.sym 0, .i .u32 x.1] q) = True)
    (hO : yesK (oneOrc (k.map (·.1)) a (oneU a l k N c)) Ir.env n5 5 [.sym 0, .sym 1] True = True)
    {v nr : Int} (hv : -9223372036854775808 ≤ v ∧ v ≤ 9223372036854775807) (hnr : 0 ≤ nr ∧ nr ≤ 4294967295) (ha : (IntKind.wrap .u64 v).tmod 6 = a) : YesO v nr := by
  have hl := numsK hNum
  have hk := namsK ((atOrc_ok bool0).calls (tabOf_ok hl)) hNam
  have base : ∀ nr : Int, 0 ≤ nr ∧ nr ≤ 4294967295 → ∀ e ∈ oneT a l k N c, Knows Try.prog (sgO v nr) e.1 e.2.1 e.2.2 := fun nr hnr => oneT_ok (atOrc_ok (sgO_ok (ne := []) hv hnr (by simp))) hw hl hk hr hA
  by_cases hm : nr ∈ k.map (·.1)
  · have h : ∀ x ∈ k, x.1 = nr → YesO v nr := allK_iff (fun x q hq => ⟨fun he w => by
      subst he
      exact (yesK_run (oneOrc_ok hv hnr (by simp) ha (base _ hnr)) Ir.envOk hq).1 (.cons _ _ _ _ (.sym 0) (.cons _ _ _ _ (.i _ _) .nil)) w, (ansK_iff hq).2⟩) hK
    obtain ⟨x, hx, he⟩ := List.mem_map.1 hm
    exact h x hx he
  · have hb : Both 17 18 #[.int .i64 a, .int .u32 nr] (.string ⟨[].toArray⟩) := (both ((atOrc_ok (sgN_ok hm hnr)).calls (tabOf_ok hl)) (by simp [eqL, eq1_i, eq1_y]) (.cons _ _ _ _ (.i _ _) (.cons _ _ _ _ (.sym 0) .nil)) (fun _ h => h.un_s) (of_eq_true hU)).1
    have ht : ∀ e ∈ oneU a l k N c, Knows Try.prog (sgO v nr) e.1 e.2.1 e.2.2 := by
      intro e he
      rcases List.mem_cons.1 he with rfl | he
      · exact nam_inU rfl hb
      · exact base nr hnr e he
    exact fun w => (yesK_run (oneOrc_ok hv hnr hm ha ht) Ir.envOk (of_eq_true hO)).1 (.cons _ _ _ _ (.sym 0) (.cons _ _ _ _ (.sym 1) .nil)) w
theorem known_all : ∀ x ∈ names, Both 15 16 #[.string ⟨x.toArray⟩] (.bool true) := knwsK (atOrc_ok bool0) knwK
end Go.Proofs.Ytpggfccbfplphaa.Tab
