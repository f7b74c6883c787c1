/- Code, calls, functions: what the abstract machine comes to, the model's machine comes to. Condition: the text of each function has been checked (EnvOk). -/
import Derived.Test.YtbcpapkjdphfpaaCore15
import Derived.Test.YtbcpapkjdphfpaaCore16
import Derived.LoopN
import Derived.Orders
namespace Go.Ab
variable {σ : Nat → Value} {ρ ρ' : Ren} {P : Program} {orc : Orc} {env : Tr IFn}

def chkD (nt : Nat) : Option Tmp → Option Nat → Bool
  | none, none => true
  | some a, some b => a == b && Nat.blt a nt
  | _, _ => false
def chkG (ops : Array Oper) : Option (Nat × Bool) → Option (Nat × Bool) → Bool
  | none, none => true
  | some (j, b), some (d, c) => b == c && ((ops[j]?).bind (·.dst)) == some d
  | _, _ => false
def chkR (P : Program) (ops : Array Oper) (nt : Nat) (o : Oper) (r : ROp) : Bool := chkD nt o.dst r.dst && chkG ops o.guard r.guard && chkRK P o.op r.k
def chkRs (P : Program) (ops : Array Oper) (nt : Nat) : List Oper → List ROp → Bool
  | [], [] => true
  | o :: os, r :: rs => chkR P ops nt o r && chkRs P ops nt os rs
  | _, _ => false
/-- which operations are certainly done ahead of which: a mask each -/
def mask (o : Oper) (acc : List Nat) : Nat := o.after.toList.foldl (fun s e => if Region.binds .any e then s ||| 2 ^ e.on ||| acc.getD e.on 0 else s) 0
def masks : List Oper → List Nat → List Nat
  | [], acc => acc
  | o :: os, acc => masks os (acc ++ [mask o acc])
/-- the temporaries that an operation names -/
def namesO : O → List Nat
  | .t n => [n]
  | .c _ => []
def namesOs (xs : List O) : List Nat := xs.flatMap namesO
def namesOpt : Option O → List Nat
  | none => []
  | some x => namesO x
def namesP (ps : List (Nat × Nat × O)) : List Nat := ps.flatMap fun p => namesO p.2.2
def namesI : IOp → List Nat
  | .mov x | .box x | .load1 x | .loadN _ x | .nilChk x | .eqN _ _ x | .un _ x | .cvInt _ x | .cvStr x | .s2b x | .b2s x | .fAddr _ x | .fld _ _ x | .ext x _ | .len _ x | .clear _ x | .lenM x | .rangeS x | .nextS x => namesO x
  | .pick c x y => namesO c ++ namesO x ++ namesO y
  | .alloc _ | .mkM | .no => []
  | .updM _ x i v => namesO x ++ namesO i ++ namesO v
  | .build _ ps | .buildS _ _ ps => namesP ps
  | .store _ x v => namesO x ++ namesO v
  | .storeD _ x v ps => namesO x ++ namesO v ++ ps
  | .bin _ x y | .eqB _ x y | .eqA _ _ x y | .iAddrA _ _ x y | .iAddrS _ x y | .idxA _ _ _ x y | .idxS x y | .mkS _ _ _ x y | .app _ _ _ x y | .appF _ _ x y | .copy _ x y | .max x y | .min x y | .lookM _ _ _ x y => namesO x ++ namesO y
  | .slcS _ x lo hi mx | .slcA _ _ x lo hi mx => namesO x ++ namesOpt lo ++ namesOpt hi ++ namesOpt mx
  | .slcStr x lo hi => namesO x ++ namesOpt lo ++ namesOpt hi
  | .mkF _ a c => namesOs a ++ namesOs c
def namesK : RK → List Nat
  | .op o => namesI o
  | .callF _ args => namesOs args
  | .callV x args => namesO x ++ namesOs args
/-- a store, without what it is apart from -/
def plain : RK → RK
  | .op (.storeD n x v _) => .op (.store n x v)
  | k => k
def namesR (r : ROp) : List Nat := r.dst.toList ++ (match r.guard with | some g => [g.1] | none => []) ++ namesK (plain r.k)
/-- has it nothing to do with memory? -/
def pureK : RK → Bool
  | .op o => match o with
    | .mov _ | .pick .. | .bin .. | .eqB .. | .un .. | .cvInt .. | .fAddr .. | .ext .. | .iAddrA .. | .iAddrS .. | .nilChk _ | .eqN .. | .fld .. => true
    | _ => false
  | _ => false
def dn (a b : ROp) : Bool := match a.dst with | some d => (namesR b).contains d | none => false
/-- 'b' writes a place that 'a', ahead of it, does not read -/
def excepts (a b : ROp) : Bool :=
  match b.k with
  | .op (.storeD _ _ _ ps) => (match a.k with
    | .op (.load1 (.t p)) => ps.contains p && a.dst.isSome
    | .op (.loadN _ (.t p)) => ps.contains p && a.dst.isSome
    | _ => false)
  | _ => false
/-- 'a' is ahead of 'b' in the text: may they not change places? -/
def meets (a b : ROp) : Bool := dn a b || dn b a ||
  (wr a.k && !pureK b.k) || (!pureK a.k && wr b.k && !excepts a b)
def chkPairs (rs : List ROp) (ms : List Nat) : Nat → List ROp → Bool
  | _, [] => true
  | j, r :: rest => (rs.take j).zipIdx.all (fun q => !meets q.1 r || (ms.getD j 0).testBit q.2) && chkPairs rs ms (j + 1) rest
def ptrOf : RK → Option Nat
  | .op (.load1 (.t p)) | .op (.loadN _ (.t p)) => some p
  | _ => none
/-- the places of which a store is apart stay till it comes -/
def chkSt (rs : List ROp) : Bool :=
  rs.zipIdx.all fun q => (rs.take q.2).zipIdx.all fun r => !excepts r.1 q.1 || ((rs.take q.2).drop r.2).all fun u => u.dst.isNone || u.dst != ptrOf r.1.k
def chkDraw (ops : Array Oper) (rs : List ROp) : Bool :=
  chkSt rs &&
  (ops.toList.zipIdx.all fun p => p.1.after.all fun e => !Region.binds .any e || Nat.blt e.on p.2) && chkPairs rs (masks ops.toList []) 0 rs
def chkCode (P : Program) (nt : Nat) : Code → ICode → Bool
  | _, .no => true
  | .skip, .skip => true
  | .region _ ops draw, .reg d rs => draw == d && chkRs P ops nt ops.toList rs && (!d || (P.follows .mixedOrders && chkDraw ops rs))
  | .seq x y, .seq x' y' => chkCode P nt x x' && chkCode P nt y y'
  | .cond c x y, .cond c' x' y' => chkO c c' && chkCode P nt x x' && chkCode P nt y y'
  | .block id x, .blk id' x' => id == id' && chkCode P nt x x'
  | .loop x, .loop x' => chkCode P nt x x'
  | .exit id, .exit id' => id == id'
  | .ret, .ret => true
  | _, _ => false
def chkRes (P : Program) : List ResultVar → List RV → Bool
  | [], [] => true
  | .tmp n :: xs, .tmp m :: ys => n == m && chkRes P xs ys
  | .cell n t :: xs, .cell m size agg :: ys => n == m && isAggT P t == agg && (P.underlying t).isSome && (!agg || chkSize P t size) && chkRes P xs ys
  | _, _ => false
/-- a function's text is the model's -/
def chkFn (P : Program) (f : Nat) (i : IFn) : Bool :=
  match P.funcs[f]? with
  | some fn => fn.name != "runtime.NumGoroutine" && (match fn.body with | some c => chkCode P fn.ntmps c i.body | none => false) && chkRes P fn.results.toList i.res
  | none => false
def EnvOk (P : Program) (env : Tr IFn) : Prop := ∀ f i, env.get f = some i → chkFn P f i = true

/-! ### what a run in the model's machine is to come to -/
/-- the ways out -/
inductive XR : X → Exit → Prop where
  | normal : XR .normal .normal
  | exit (id : Nat) : XR (.exit id) (.exit id)
  | ret : XR .ret .ret
/-- the abstract outcome's pendant -/
def Post (σ : Nat → Value) (Q : X → Tr AV → Hp → Prop) (nt : Nat) (ρ : Ren) (B : Nat) (h : Hp) (w : World) (ds : List Deferred) (e : Exit) (a : Act) (w' : World) : Prop :=
  ∃ x t' h' ρ', XR x e ∧ Q x t' h' ∧ TR σ ρ' t' a.tmps ∧ nt ≤ a.tmps.size ∧ a.defers = ds ∧ Rel σ ρ' B h' w' ∧ Kept ρ B h w ρ' h' w'
def CallRes (P : Program) (σ : Nat → Value) (f : Nat) (args : Array Value) (ρ : Ren) (B : Nat) (h : Hp) (w : World) (k : AV → Hp → Prop) : Prop :=
  Calls P f args w fun e w' => ∃ v v' h' ρ', e = .returned v' ∧ k v h' ∧ VR σ ρ' v v' ∧ Rel σ ρ' B h' w' ∧ Kept ρ B h w ρ' h' w'
/-- a body's run in the abstract machine is one in the model's -/
def Sound (P : Program) (σ : Nat → Value) (ih : Body) : Prop :=
  ∀ ic Q t h, ih ic Q t h → ∀ nt code, chkCode P nt code ic = true → ∀ ρ B w (a : Act), TR σ ρ t a.tmps → nt ≤ a.tmps.size → Rel σ ρ B h w → code.wp P (Post σ Q nt ρ B h w a.defers) a w

theorem put_size (a : Act) (d : Option Tmp) (v : Value) : (a.put d v).tmps.size = a.tmps.size := by
  cases d <;> simp [Act.put]
theorem put_defers (a : Act) (d : Option Tmp) (v : Value) : (a.put d v).defers = a.defers := by
  cases d <;> rfl
/-- behind an operation -/
theorem TR.put {t : Tr AV} {a : Act} (ht : TR σ ρ t a.tmps) {nt : Nat} (hn : nt ≤ a.tmps.size) {d : Option Tmp} {d' : Option Nat} (hd : chkD nt d d' = true) {v : AV} {v' : Value} (hv : VR σ ρ v v') {k : Tr AV → Prop} (hk : dstK t d' v k) :
    ∃ t', k t' ∧ TR σ ρ t' (a.put d v').tmps := by
  cases d <;> cases d' <;> simp [chkD] at hd
  · exact ⟨t, hk, ht⟩
  · rename_i x y
    obtain ⟨rfl, hlt⟩ := hd
    have hk' := (Tr.setK_iff _ _ _ _).1 hk
    refine ⟨_, hk', fun n u hu => ?_⟩
    rw [Tr.get_set] at hu
    have hlt' : x < a.tmps.size := Nat.lt_of_lt_of_le hlt hn
    simp only [Act.put, Array.size_setIfInBounds]
    split at hu
    · subst_vars
      cases hu
      exact ⟨hlt', by simpa [Array.getD, hlt'] using hv⟩
    · rename_i hne
      obtain ⟨h1, h2⟩ := ht n u hu
      refine ⟨h1, ?_⟩
      have : (a.tmps.setIfInBounds x v').getD n undef = a.tmps.getD n undef := by
        rw [Array.getD_eq_getD_getElem?, Array.getD_eq_getD_getElem?, Array.getElem?_setIfInBounds, if_neg (fun h => hne h.symm)]
      rw [this]; exact h2

theorem guard_ok {t : Tr AV} {a : Act} (ht : TR σ ρ t a.tmps) {ops : Array Oper} {o : Oper} {g : Option (Nat × Bool)} (hg : chkG ops o.guard g = true) {k : Bool → Prop} (hk : guardK t g k) :
    k (Region.wanted o (yielded ops a.tmps)) := by
  cases hog : o.guard with
  | none =>
    rw [hog] at hg
    cases g with
    | none => simp only [Region.wanted, hog]; exact hk
    | some _ => simp [chkG] at hg
  | some jb =>
    obtain ⟨j, b⟩ := jb
    rw [hog] at hg
    cases g with
    | none => simp [chkG] at hg
    | some dc =>
      obtain ⟨d, c⟩ := dc
      simp only [chkG, Bool.and_eq_true] at hg
      obtain ⟨h1, h2⟩ := hg
      obtain rfl := eq_of_beq h1
      have h2' := eq_of_beq h2
      have hk' : t.getK d (fun v => match v with
        | .b x => forceB (x == b) k
        | .tup _ => k false
        | _ => False) := hk
      obtain ⟨v, hv, hk2⟩ := (Tr.getK_iff _ _ _).1 hk'
      obtain ⟨hlt, hvr⟩ := ht d v hv
      have hy : yielded ops a.tmps j = match a.tmps.getD d undef with | .bool b => some b | _ => none := by
        have e1 : a.tmps[d]? = some (a.tmps.getD d undef) := by
          rw [Array.getD_eq_getD_getElem?, Array.getElem?_eq_getElem hlt]; rfl
        simp only [yielded, h2', Option.bind_some, e1]
        cases a.tmps.getD d undef <;> rfl
      simp only [Region.wanted, hog, hy]
      cases v <;> try exact hk2.elim
      · rename_i x
        rw [hvr.un_b]
        rw [show ((some x == some b)) = (x == b) from rfl]
        exact (Iff.of_eq (forceB_eq (x == b) k)).1 hk2
      · obtain ⟨vs, _, e⟩ := hvr.un_tup
        rw [e]
        exact hk2

theorem argsK_get : ∀ (l : List AV) (n : Nat) (t : Tr AV) (k : Tr AV → Prop), argsK l n t k → ∃ t', k t' ∧ ∀ j v, t'.get j = some v → (n ≤ j ∧ l[j - n]? = some v) ∨ t.get j = some v
  | [], n, t, k, hk => ⟨t, hk, fun j v h => .inr h⟩
  | x :: l, n, t, k, hk => by
    have hk' : t.setK n x (fun t' => forceN (Nat.succ n) (fun n' => argsK l n' t' k)) := hk
    have hk2 := (Tr.setK_iff _ _ _ _).1 hk'
    have hk3 := (Iff.of_eq (forceN_eq (Nat.succ n) _)).1 hk2
    obtain ⟨t', h1, h2⟩ := argsK_get l (n + 1) _ k hk3
    refine ⟨t', h1, fun j v hv => ?_⟩
    rcases h2 j v hv with ⟨h3, h4⟩ | h3
    · left; refine ⟨by omega, ?_⟩
      rw [show j - n = (j - (n + 1)) + 1 from by omega]; simpa using h4
    · rw [Tr.get_set] at h3
      split at h3
      · subst_vars; left; simpa using h3
      · right; exact h3

def resV (tm : Array Value) : ResultVar → Sem Value
  | .tmp t => pure (tm.getD t undef)
  | .cell a t => do loadVar t (← asAddr (tm.getD a undef))
theorem results_eq (fn : Func) (tm : Array Value) : results fn tm = (do let vs ← fn.results.mapM (resV tm); pure (if h : vs.size = 1 then vs[0] else .tuple vs)) := by
  have : resV tm = (fun
    | .tmp t => pure (tm.getD t undef)
    | .cell a t => do loadVar t (← asAddr (tm.getD a undef))) := by
    funext x; cases x <;> rfl
  rw [this]; rfl
theorem res_ok {B : Nat} {h : Hp} {w : World} (r : Rel σ ρ B h w) {t : Tr AV} {tm : Array Value} (ht : TR σ ρ t tm) : ∀ (rs : List ResultVar) (is : List RV), chkRes P rs is = true → ∀ (k : List AV → Prop), resK t h is k →
    ∃ vs vs', k vs ∧ VRs σ ρ vs vs' ∧ (rs.mapM (resV tm)).run P w = .ok vs' w
  | [], is, hc, k, hk => by
    cases is with
    | nil => exact ⟨[], [], hk, .nil, by simp⟩
    | cons => simp [chkRes] at hc
  | x :: rs, is, hc, k, hk => by
    cases is with
    | nil => cases x <;> simp [chkRes] at hc
    | cons y is =>
      cases x with
      | tmp n =>
        cases y with
        | tmp m =>
          simp only [chkRes, Bool.and_eq_true] at hc
          obtain ⟨h1, hc⟩ := hc
          obtain rfl := eq_of_beq h1
          have hk' : t.getK n (fun v => resK t h is (fun vs => k (v :: vs))) := hk
          obtain ⟨v, hv, hk2⟩ := (Tr.getK_iff _ _ _).1 hk'
          obtain ⟨vs, vs', h2, h3, h4⟩ := res_ok r ht rs is hc _ hk2
          refine ⟨v :: vs, _ :: vs', h2, .cons _ _ _ _ (ht n v hv).2 h3, ?_⟩
          rw [List.mapM_cons]
          simp only [Sem.run_bind, resV, Sem.run_pure, Result.andThen_ok]
          have h4' := h4
          simp only [h4', Result.andThen_ok]
        | cell => simp [chkRes] at hc
      | cell n ty =>
        cases y with
        | tmp => simp [chkRes] at hc
        | cell m size agg =>
          simp only [chkRes, Bool.and_eq_true] at hc
          obtain ⟨⟨⟨⟨h1, h2⟩, h3⟩, h4⟩, hc⟩ := hc
          obtain rfl := eq_of_beq h1
          have h2 := eq_of_beq h2
          have hk' : t.getK n (fun p => unP p (fun b o => Bool.rec (motive := fun _ => Prop) (ldK h b o (fun v => resK t h is (fun vs => k (v :: vs)))) (ldsK h b o size (fun cs => resK t h is (fun vs => k (.agg cs :: vs)))) agg)) := hk
          obtain ⟨p, hp, hk2⟩ := (Tr.getK_iff _ _ _).1 hk'
          obtain ⟨b, o, L, g1, g2, g3⟩ := unP_ok (ht n p hp).2 hk2
          have hload : ∃ v v', VR σ ρ v v' ∧ resK t h is (fun vs => k (v :: vs)) ∧ (loadVar ty ⟨L.blk, L.off + o, none⟩).run P w = .ok v' w := by
            cases agg with
            | false =>
              obtain ⟨v, v', g4, g5, g6⟩ := ld_ok r g1 g3
              exact ⟨v, v', g5, g4, by simp [loadVar, isAgg_run h3, h2, g6]⟩
            | true =>
              obtain ⟨cs, vs, g4, g5, g6, g7⟩ := lds_ok r g1 g3
              refine ⟨.agg cs, .agg vs.toArray, .agg _ _ (by simpa using g5), g4, ?_⟩
              have hsz : chkSize P ty size = true := by simpa using h4
              simp [loadVar, isAgg_run h3, h2, size_run hsz, run_lds g6 g7]
          obtain ⟨v, v', g4, g5, g6⟩ := hload
          obtain ⟨vs, vs', h5, h6, h7⟩ := res_ok r ht rs is hc _ g5
          refine ⟨v :: vs, v' :: vs', h5, .cons _ _ _ _ g4 h6, ?_⟩
          rw [List.mapM_cons]
          have hx : (resV tm (.cell n ty)).run P w = .ok v' w := by simp [resV, g2, asAddr, g6]
          rw [Sem.run_bind, hx, Result.andThen_ok, Sem.run_bind, h7]
          rfl

theorem results_ok {B : Nat} {h : Hp} {w : World} (r : Rel σ ρ B h w) {t : Tr AV} {tm : Array Value} (ht : TR σ ρ t tm) {fn : Func} {is : List RV} (hc : chkRes P fn.results.toList is = true) {k : AV → Hp → Prop} (hk : resK t h is (fun vs => k (packR vs) h)) :
    ∃ v v', k v h ∧ VR σ ρ v v' ∧ (results fn tm).run P w = .ok v' w := by
  obtain ⟨vs, vs', h1, h2, h3⟩ := res_ok r ht fn.results.toList is hc _ hk
  have hm : (fn.results.mapM (resV tm)).run P w = .ok vs'.toArray w := by
    rcases hfr : fn.results with ⟨l⟩
    rw [List.mapM_toArray]
    rw [hfr] at h3
    simp only [Sem.run_map, h3, Result.andThen_ok]
  have hl := h2.length
  refine ⟨_, if h : vs'.toArray.size = 1 then vs'.toArray[0] else .tuple vs'.toArray, h1, ?_, ?_⟩
  · cases h2 with
    | nil => simpa [packR] using VR.tup (σ := σ) (ρ := ρ) [] #[] .nil
    | cons v vs v' vs' h4 h5 =>
      cases h5 with
      | nil => simpa [packR] using h4
      | cons u us u' us' h6 h7 =>
        have : packR (v :: u :: us) = .tup (v :: u :: us) := rfl
        rw [this, dif_neg (by simp)]
        exact .tup _ _ (by simpa using VRs.cons _ _ _ _ h4 (.cons _ _ _ _ h6 h7))
  · rw [results_eq, Sem.run_bind, hm]
    rfl

/-- a call -/
theorem call_ok (henv : EnvOk P env) {ih : Body} (hs : Sound P σ ih) {f : Nat} {vs : List AV} {h : Hp} {k : AV → Hp → Prop} (hk : callK env ih f vs h k) {B : Nat} {w : World} (r : Rel σ ρ B h w) {args : Array Value} (ha : VRs σ ρ vs args.toList) :
    CallRes P σ f args ρ B h w k ∧ ∃ fn, P.funcs[f]? = some fn ∧ fn.name ≠ "runtime.NumGoroutine" ∧ fn.body.isSome = true := by
  have hk' : env.getK f (fun fn => IFn.rec (motive := fun _ => Prop) (fun res body => argsK vs 0 .leaf (fun t0 => ih body (fun e t h' =>
    exitK e (resK t h' res (fun vs => k (packR vs) h')) (fun _ => False) (resK t h' res (fun vs => k (packR vs) h'))) t0 h)) fn) := hk
  obtain ⟨i, hi, hk2⟩ := (Tr.getK_iff _ _ _).1 hk'
  have hchk := henv f i hi
  unfold chkFn at hchk
  split at hchk <;> try (cases hchk; done)
  rename_i fn hfn
  simp only [Bool.and_eq_true, bne_iff_ne] at hchk
  obtain ⟨⟨hname, hbody⟩, hres⟩ := hchk
  split at hbody <;> try (cases hbody; done)
  rename_i c hc
  refine ⟨?_, fn, hfn, hname, by rw [hc]; rfl⟩
  cases i with
  | mk res body =>
    obtain ⟨t0, h1, h2⟩ := argsK_get vs 0 .leaf _ hk2
    have hl := ha.length
    have ht : TR σ ρ t0 (args ++ Array.replicate (fn.ntmps - args.size) undef) := by
      intro n v hv
      rcases h2 n v hv with ⟨_, h3⟩ | h3
      · simp only [Nat.sub_zero] at h3
        obtain ⟨v', h4, h5⟩ := ha.get h3
        have hn : n < args.size := by
          have := (List.getElem?_eq_some_iff.1 h4).1; simpa using this
        refine ⟨by simp; omega, ?_⟩
        have : (args ++ Array.replicate (fn.ntmps - args.size) undef).getD n undef = v' := by
          rw [Array.getD_eq_getD_getElem?, Array.getElem?_append_left hn]
          rw [Array.getElem?_toList] at h4
          rw [h4]; rfl
        rw [this]; exact h5
      · simp at h3
    have hsize : fn.ntmps ≤ (args ++ Array.replicate (fn.ntmps - args.size) undef).size := by simp; omega
    have hw := hs _ _ _ _ h1 fn.ntmps c hbody ρ B w { tmps := args ++ Array.replicate (fn.ntmps - args.size) undef, defers := [] } ht hsize r
    refine calls_of_wp hfn hc (wp_mono hw ?_)
    rintro e a w' ⟨x, t', h', ρ', hx, hq, ht', _, hd, hr', hkept⟩
    cases hx with
    | exit id => exact hq.elim
    | normal =>
      obtain ⟨v, v', g1, g2, g3⟩ := results_ok hr' ht' hres hq
      exact ⟨hd, v', g3, v, v', h', ρ', rfl, g1, g2, hr', hkept⟩
    | ret =>
      obtain ⟨v, v', g1, g2, g3⟩ := results_ok hr' ht' hres hq
      exact ⟨hd, v', g3, v, v', h', ρ', rfl, g1, g2, hr', hkept⟩

theorem callFunc_run {f : Nat} {fn : Func} (hf : P.funcs[f]? = some fn) (hn : fn.name ≠ "runtime.NumGoroutine") (hb : fn.body.isSome = true) (args : Array Value) (w : World) : (callFunc f args).run P w = .ok (.enter f args) w := by
  obtain ⟨c, hc⟩ := Option.isSome_iff_exists.1 hb
  simp [callFunc, hf, hn, hc]

/-- an operation, a call among them -/
theorem rop0_ok (horc : OrcOk P σ orc) (henv : EnvOk P env) {ih : Body} (hs : Sound P σ ih) {B : Nat} {h : Hp} {w : World} (r : Rel σ ρ B h w) {t : Tr AV} {a : Act} (ht : TR σ ρ t a.tmps) {o : Oper} {rk : RK} (hc : chkRK P o.op rk = true)
    {k : AV → Hp → Prop} (hk : ropK0 orc env ih rk t h k) (next : Act → World → Prop) (Q : Exit → Act → World → Prop)
    (hn : ∀ v v' h' ρ' w', k v h' → VR σ ρ' v v' → Rel σ ρ' B h' w' → Kept ρ B h w ρ' h' w' → next (a.put o.dst v') w') : o.wp P a w next Q := by
  generalize hoo : o.op = oo at hc
  unfold chkRK at hc
  have callCase : ∀ {f : Nat} {vs : List AV} {args : Array Value}, callK env ih f vs h k → VRs σ ρ vs args.toList → ((∃ fn, P.funcs[f]? = some fn ∧ fn.name ≠ "runtime.NumGoroutine" ∧ fn.body.isSome = true) → (execOp a.eval o).run P w = .ok (.enter f args) w) → o.wp P a w next Q := by
    intro f vs args h1 h2 h3
    obtain ⟨h4, h5⟩ := call_ok henv hs h1 r h2
    unfold Oper.wp
    rw [h3 h5, Oper.upon_enter]
    refine Calls.mono h4 ?_
    rintro e w' ⟨v, v', h', ρ', rfl, g1, g2, g3, g4⟩
    exact hn v v' h' ρ' w' g1 g2 g3 g4
  split at hc
  · rename_i f args argTypes g bs
    simp only [Bool.and_eq_true] at hc
    obtain ⟨h1, h2⟩ := hc
    obtain rfl := eq_of_beq h1
    obtain ⟨vs, h3, h4⟩ := evs_ok ht h2 hk
    have hrun : (∃ fn, P.funcs[f]? = some fn ∧ fn.name ≠ "runtime.NumGoroutine" ∧ fn.body.isSome = true) → (execOp a.eval o).run P w = .ok (.enter f (args.map a.eval)) w := by
      rintro ⟨fn, g1, g2, g3⟩
      have he : a.eval (.func f) = .func (.func f) #[] #[] := rfl
      simp [execOp, hoo, resolve, he, Deferred.ofValue, invoke, callFunc_run g1 g2 g3]
    cases hans : orc.call f vs with
    | some ans =>
      rw [hans] at h3
      obtain ⟨g1, g2⟩ := horc.call _ _ _ hans
      have g3 := g2 ρ (args.map a.eval) (by simpa using h4) w
      unfold Oper.wp
      rw [hrun g1, Oper.upon_enter]
      refine Calls.mono g3 ?_
      rintro e w' ⟨v', rfl, q1, q2⟩
      cases ans with
      | val v =>
        exact hn v v' h ρ w' h3 (q1 ρ) (r.world q2.pres q2.size) ⟨fun _ _ => rfl, Nat.le_refl _, rfl, fun _ _ _ => rfl, fun k hk => q2.pres k (Nat.lt_of_lt_of_le hk r.base), q2.size, q2.io⟩
      | row esz n cs =>
        obtain ⟨L, c, ty, fz, cap, rfl, p1, p2, p3, rfl, p5, p6, p7, p8, p9⟩ := q1
        obtain ⟨r2, k2⟩ := r.fresh true true cs c ty fz L p5 q2.pres q2.size p1 p2 p3 q2.io p8 (fun j v hv => by obtain ⟨v', m1, m2⟩ := p9 j v hv; exact ⟨v', m1, m2 ρ⟩)
        have h3' := (newK_iff h (.cells L.esz true true cs) (fun b h' => k (.sl b 0 n n true) h')).1 h3
        refine hn _ _ _ _ w' h3' ?_ r2 k2
        have := VR.sl (σ := σ) (ρ := ρ.add h.sz L) h.sz 0 n n cap true L (Ren.add_self _ _ _) (.inr ⟨rfl, p6, by simpa using p7⟩)
        simpa using this
    | none =>
    rw [hans] at h3
    exact callCase h3 (args := args.map a.eval) (by simpa using h4) hrun
  · rename_i x args argTypes y bs
    simp only [Bool.and_eq_true] at hc
    obtain ⟨h1, h2⟩ := hc
    obtain ⟨v, h3, h4⟩ := ev_ok ht h1 hk
    obtain ⟨vs, h5, h6⟩ := evs_ok ht h2 h3
    cases v <;> try exact h5.elim
    rename_i f first cap
    obtain ⟨a', c', h7, h8, h9⟩ := h4.un_fn
    refine callCase h5 (args := a' ++ args.map a.eval ++ c') (by simpa using h7.append ((by simpa using h6 : VRs σ ρ vs (args.map a.eval).toList).append h8)) ?_
    rintro ⟨fn, g1, g2, g3⟩
    simp [execOp, hoo, resolve, h9, Deferred.ofValue, invoke, callFunc_run g1 g2 g3]
  · obtain ⟨v, v', h', ρ', w', g1, g2, g3, g4, g5⟩ := op_ok (o := o) horc r ht (by rw [hoo]; exact hc) hk
    unfold Oper.wp
    rcases g2 with g2 | ⟨g2, rfl⟩
    · rw [g2, Oper.upon_value]; exact hn v v' h' ρ' w' g1 g3 g4 g5
    · rw [g2, Oper.upon_skip]; exact hn v _ h' ρ' w' g1 g3 g4 g5
  · cases hc

/-- under a floor: besides, nothing that was there is touched, in the abstract heap nor in the world -/
theorem raise_ok (horc : OrcOk P σ orc) (henv : EnvOk P env) {ih : Body} (hs : Sound P σ ih) {B : Nat} {h : Hp} {w : World} (r : Rel σ ρ B h w) {t : Tr AV} {a : Act} (ht : TR σ ρ t a.tmps) {o : Oper} {rk : RK} (hc : chkRK P o.op rk = true)
    {k : AV → Hp → Prop} (hk : raiseK (ropK0 orc env ih rk t) h k) (next : Act → World → Prop) (Q : Exit → Act → World → Prop)
    (hn : ∀ v v' h' ρ' w', k v h' → VR σ ρ' v v' → Rel σ ρ' B h' w' → Kept ρ B h w ρ' h' w' → (∀ b, b < h.sz → h'.tr.get b = h.tr.get b) → (∀ n, n < w.heap.size → w'.heap[n]? = w.heap[n]?) → (∀ b L, ρ' b = some L → h.sz ≤ b → w.heap.size ≤ L.blk) → next (a.put o.dst v') w') : o.wp P a w next Q := by
  cases h with
  | mk sz fl tr =>
    have hk' : ropK0 orc env ih rk t ⟨sz, sz, tr⟩ (fun v h' => Hp.rec (motive := fun _ => Prop) (fun sz' _ tr' => k v ⟨sz', fl, tr'⟩) h') := hk
    have r1 : Rel σ ρ w.heap.size ⟨sz, sz, tr⟩ w := ⟨r.dom, r.cells, r.maps, r.excl, r.exclm, r.app, fun b L hb hf => absurd (r.dom b L hb) (by simp at hf ⊢; omega), Nat.le_refl _⟩
    refine rop0_ok horc henv hs r1 ht hc hk' next Q ?_
    intro v v' h' ρ' w' g1 g2 g3 g4
    cases h' with
    | mk sz' fl' tr' =>
      have e1 : fl' = sz := g4.fl
      have hnew : ∀ b L, ρ' b = some L → sz ≤ b → w.heap.size ≤ L.blk := fun b L hb hf => g3.flr b L hb (by rw [e1]; exact hf)
      refine hn v v' ⟨sz', fl, tr'⟩ ρ' w' g1 g2 ⟨g3.dom, g3.cells, g3.maps, g3.excl, g3.exclm, g3.app, ?_, Nat.le_trans r.base g4.wle⟩ ⟨g4.ext, g4.szle, rfl, fun b _ hb => g4.akeep b hb hb, fun n hn' => g4.pres n (Nat.lt_of_lt_of_le hn' r.base), g4.wle, g4.io⟩ (fun b hb => g4.akeep b hb hb) g4.pres hnew
      intro b L hb hf
      by_cases hlt : b < sz
      · exact r.flr b L ((g4.ext b hlt).symm.trans hb) hf
      · exact Nat.le_trans r.base (hnew b L hb (Nat.le_of_not_lt hlt))

theorem rop_ok (horc : OrcOk P σ orc) (henv : EnvOk P env) {ih : Body} (hs : Sound P σ ih) {draw : Bool} {B : Nat} {h : Hp} {w : World} (r : Rel σ ρ B h w) {t : Tr AV} {a : Act} (ht : TR σ ρ t a.tmps) {o : Oper} {rk : RK} (hc : chkRK P o.op rk = true)
    {k : AV → Hp → Prop} (hk : ropK orc env draw ih rk t h k) (next : Act → World → Prop) (Q : Exit → Act → World → Prop)
    (hn : ∀ v v' h' ρ' w', k v h' → VR σ ρ' v v' → Rel σ ρ' B h' w' → Kept ρ B h w ρ' h' w' → next (a.put o.dst v') w') : o.wp P a w next Q := by
  rcases (brec_iff _ _ _).1 hk with ⟨_, hk⟩ | ⟨_, hk⟩
  · exact rop0_ok horc henv hs r ht hc hk next Q hn
  · exact raise_ok horc henv hs r ht hc hk next Q (fun v v' h' ρ' w' g1 g2 g3 g4 _ _ _ => hn v v' h' ρ' w' g1 g2 g3 g4)

/-- a region in the order of its text -/
theorem reg_ok (horc : OrcOk P σ orc) (henv : EnvOk P env) {ih : Body} (hs : Sound P σ ih) {nt : Nat} {ops : Array Oper} {Q : Tr AV → Hp → Prop} {K : Exit → Act → World → Prop} {ρ0 : Ren} {B : Nat} {h0 : Hp} {w0 : World} {ds : List Deferred}
    (hK : ∀ a w t h ρ', Q t h → TR σ ρ' t a.tmps → nt ≤ a.tmps.size → a.defers = ds → Rel σ ρ' B h w → Kept ρ0 B h0 w0 ρ' h w → K .normal a w) :
    ∀ (os : List Oper) (rs : List ROp) (i : Nat), chkRs P ops nt os rs = true → ops.toList.drop i = os → ∀ t h ρ w (a : Act), regK orc env false ih rs Q t h → TR σ ρ t a.tmps → nt ≤ a.tmps.size → a.defers = ds → Rel σ ρ B h w → Kept ρ0 B h0 w0 ρ h w →
      wpOps P ops K (List.range' i os.length) a w
  | [], rs, i, hc, hd, t, h, ρ, w, a, hk, ht, hsz, hds, r, hkept => by
    cases rs with
    | nil => exact hK a w t h ρ hk ht hsz hds r hkept
    | cons => simp [chkRs] at hc
  | o :: os, rs, i, hc, hd, t, h, ρ, w, a, hk, ht, hsz, hds, r, hkept => by
    cases rs with
    | nil => simp [chkRs] at hc
    | cons rr rs =>
      obtain ⟨dst, rk, g⟩ := rr
      simp only [chkRs, chkR, Bool.and_eq_true] at hc
      obtain ⟨⟨⟨hc1, hc2⟩, hc3⟩, hc⟩ := hc
      have ho : ops[i]? = some o := by
        have := congrArg (fun l => l[0]?) hd
        simpa using this
      have hd' : ops.toList.drop (i + 1) = os := by
        rw [← List.drop_drop, hd]; rfl
      have hk' : guardK t g (fun go => Bool.rec (motive := fun _ => Prop)
        (dstK t dst (.tup []) (fun t' => regK orc env false ih rs Q t' h)) (ropK orc env false ih rk t h (fun v h' => dstK t dst v (fun t' => regK orc env false ih rs Q t' h'))) go) := hk
      have hgo := guard_ok (ops := ops) (o := o) ht hc2 hk'
      simp only [List.length_cons, List.range'_succ, wpOps, ho]
      cases hw : Region.wanted o (yielded ops a.tmps) with
      | false =>
        rw [hw] at hgo
        obtain ⟨t', h1, h2⟩ := ht.put hsz hc1 (.tup [] #[] .nil) hgo
        simp only [Bool.false_eq_true, if_false]
        exact reg_ok horc henv hs hK os rs (i + 1) hc hd' t' h ρ w _ h1 h2 (by rw [put_size]; exact hsz) (by rw [put_defers]; exact hds) r hkept
      | true =>
        rw [hw] at hgo
        simp only [if_true]
        left
        refine rop_ok horc henv hs r ht hc3 hgo _ _ ?_
        intro v v' h' ρ' w' g1 g2 g3 g4
        obtain ⟨t', h1, h2⟩ := (ht.mono (g4.mono r.dom)).put hsz hc1 g2 g1
        exact reg_ok horc henv hs hK os rs (i + 1) hc hd' t' h' ρ' w' _ h1 h2 (by rw [put_size]; exact hsz) (by rw [put_defers]; exact hds) g3 (hkept.trans g4)

/-- what is asked of a region that draws its order (proved in the next text) -/
def DrawOk (P : Program) (σ : Nat → Value) (orc : Orc) (env : Tr IFn) : Prop :=
  ∀ {ih : Body}, LB ih → Sound P σ ih → ∀ {nt : Nat} {ops : Array Oper} {id : Nat} {rs : List ROp} {Q : Tr AV → Hp → Prop} {K : Exit → Act → World → Prop} {B : Nat} {t : Tr AV} {h : Hp} {w : World} {a : Act} {ρ : Ren},
    chkRs P ops nt ops.toList rs = true → P.follows .mixedOrders = true → chkDraw ops rs = true → regK orc env true ih rs Q t h → TR σ ρ t a.tmps → nt ≤ a.tmps.size → Rel σ ρ B h w →
    (∀ a' w' t' h' ρ', Q t' h' → TR σ ρ' t' a'.tmps → nt ≤ a'.tmps.size → a'.defers = a.defers → Rel σ ρ' B h' w' → Kept ρ B h w ρ' h' w' → K .normal a' w') → (Code.region id ops true).wp P K a w

theorem Post.weaken {Q : X → Tr AV → Hp → Prop} {nt : Nat} {ρ0 : Ren} {B : Nat} {h0 : Hp} {w0 : World} {ds : List Deferred} {h : Hp} {w : World} (hkept : Kept ρ0 B h0 w0 ρ h w) {e : Exit} {a : Act} {w' : World} (hp : Post σ Q nt ρ B h w ds e a w') : Post σ Q nt ρ0 B h0 w0 ds e a w' := by
  obtain ⟨x, t', h', ρ', h1, h2, h3, h4, h5, h6, h7⟩ := hp
  exact ⟨x, t', h', ρ', h1, h2, h3, h4, h5, h6, hkept.trans h7⟩

/-- the rounds of a loop: as many as the abstract machine goes -/
theorem loop_ok {n : Nat} (hall : ∀ j, j < n + 1 → Sound P σ (awp orc env j)) (x : ICode) (cx : Code) (nt : Nat) (hc : chkCode P nt cx x = true) : ∀ m, m ≤ n + 1 → ∀ (Q : X → Tr AV → Hp → Prop) (t : Tr AV) (h : Hp), awp orc env m (.loop x) Q t h →
    ∃ r, ∀ ρ B w (a : Act) ρ0 h0 w0 ds, TR σ ρ t a.tmps → nt ≤ a.tmps.size → a.defers = ds → Rel σ ρ B h w → Kept ρ0 B h0 w0 ρ h w → Code.rounds P cx (Post σ Q nt ρ0 B h0 w0 ds) r a w
  | 0, _, _, _, _, hk => hk.elim
  | m + 1, hm, Q, t, h, hk => by
    have hk' : awp orc env m x (fun e t h => X.rec (motive := fun _ => Prop) (awp orc env m (.loop x) Q t h) (fun id => Q (.exit id) t h) (Q .ret t h) e) t h := hk
    obtain ⟨e, t1, h1, hq, hall'⟩ := awp_l orc env m _ _ _ _ hk'
    have hone := hall' (fun e' t' h' => e' = e ∧ t' = t1 ∧ h' = h1) ⟨rfl, rfl, rfl⟩
    cases e with
    | normal =>
      obtain ⟨r, hr⟩ := loop_ok hall x cx nt hc m (by omega) Q t1 h1 hq
      refine ⟨r + 1, fun ρ B w a ρ0 h0 w0 ds ht hsz hds rl hkept => ?_⟩
      rw [rounds_succ]
      refine wp_mono (hall m (by omega) _ _ _ _ hone nt cx hc ρ B w a ht hsz rl) ?_
      rintro e a1 w1 ⟨x1, t2, h2, ρ1, hx, ⟨rfl, rfl, rfl⟩, ht1, hs1, hd1, r1, k1⟩
      cases hx
      exact hr ρ1 B w1 a1 ρ0 h0 w0 ds ht1 hs1 (hd1.trans hds) r1 (hkept.trans k1)
    | exit id =>
      refine ⟨1, fun ρ B w a ρ0 h0 w0 ds ht hsz hds rl hkept => ?_⟩
      rw [rounds_succ]
      refine wp_mono (hall m (by omega) _ _ _ _ hone nt cx hc ρ B w a ht hsz rl) ?_
      rintro e a1 w1 ⟨x1, t2, h2, ρ1, hx, ⟨rfl, rfl, rfl⟩, ht1, hs1, hd1, r1, k1⟩
      cases hx
      exact ⟨_, _, _, ρ1, .exit id, hq, ht1, hs1, hd1.trans hds, r1, hkept.trans k1⟩
    | ret =>
      refine ⟨1, fun ρ B w a ρ0 h0 w0 ds ht hsz hds rl hkept => ?_⟩
      rw [rounds_succ]
      refine wp_mono (hall m (by omega) _ _ _ _ hone nt cx hc ρ B w a ht hsz rl) ?_
      rintro e a1 w1 ⟨x1, t2, h2, ρ1, hx, ⟨rfl, rfl, rfl⟩, ht1, hs1, hd1, r1, k1⟩
      cases hx
      exact ⟨_, _, _, ρ1, .ret, hq, ht1, hs1, hd1.trans hds, r1, hkept.trans k1⟩

theorem sound_step (horc : OrcOk P σ orc) (henv : EnvOk P env) (hdraw : DrawOk P σ orc env) (n : Nat) (hall : ∀ j, j < n + 1 → Sound P σ (awp orc env j)) : Sound P σ (awp orc env (n + 1)) := by
    have ih := hall n (Nat.lt_succ_self n)
    intro ic Q t h hk nt code hc ρ B w a ht hsz r
    cases ic with
    | no => exact hk.elim
    | skip =>
      cases code <;> first | (simp [chkCode] at hc; done) | skip
      exact wp_skip ⟨_, t, h, ρ, .normal, hk, ht, hsz, rfl, r, Kept.refl _ _ _ _⟩
    | ret =>
      cases code <;> first | (simp [chkCode] at hc; done) | skip
      exact wp_ret ⟨_, t, h, ρ, .ret, hk, ht, hsz, rfl, r, Kept.refl _ _ _ _⟩
    | exit id =>
      cases code <;> first | (simp [chkCode] at hc; done) | skip
      obtain rfl := eq_of_beq (show (_ == id) = true from by simpa [chkCode] using hc)
      exact wp_exit ⟨_, t, h, ρ, .exit _, hk, ht, hsz, rfl, r, Kept.refl _ _ _ _⟩
    | reg draw rs =>
      cases code <;> first | (simp [chkCode] at hc; done) | skip
      rename_i id ops d
      simp only [chkCode, Bool.and_eq_true] at hc
      obtain ⟨⟨h1, h2⟩, h3⟩ := hc
      obtain rfl := eq_of_beq h1
      have hk' : regK orc env d (awp orc env n) rs (fun t h => Q .normal t h) t h := hk
      cases d with
      | false =>
        refine wp_region ?_
        have := reg_ok (ops := ops) (nt := nt) (K := Post σ Q nt ρ B h w a.defers) (ρ0 := ρ) (h0 := h) (w0 := w) (ds := a.defers) horc henv ih (fun a' w' t' h' ρ' g1 g2 g3 g4 g5 g6 => ⟨_, t', h', ρ', .normal, g1, g2, g3, g4, g5, g6⟩)
          ops.toList rs 0 h2 rfl t h ρ w a hk' ht hsz rfl r (Kept.refl _ _ _ _)
        rw [List.range_eq_range']
        simpa using this
      | true =>
        simp only [Bool.not_true, Bool.false_or, Bool.and_eq_true] at h3
        exact hdraw (awp_l orc env n) ih h2 h3.1 h3.2 hk' ht hsz r (fun a' w' t' h' ρ' g1 g2 g3 g4 g5 g6 => ⟨_, t', h', ρ', .normal, g1, g2, g3, g4, g5, g6⟩)
    | seq x y =>
      cases code <;> first | (simp [chkCode] at hc; done) | skip
      rename_i cx cy
      simp only [chkCode, Bool.and_eq_true] at hc
      refine wp_seq (wp_mono (ih _ _ _ _ hk nt cx hc.1 ρ B w a ht hsz r) ?_)
      rintro e a1 w1 ⟨x1, t1, h1, ρ1, hx, hq, ht1, hs1, hd1, r1, k1⟩
      cases hx with
      | normal => exact wp_mono (ih _ _ _ _ hq nt cy hc.2 ρ1 B w1 a1 ht1 hs1 r1) (fun e a2 w2 hp => by rw [hd1] at hp; exact Post.weaken k1 hp)
      | exit id => exact ⟨_, t1, h1, ρ1, .exit id, hq, ht1, hs1, hd1, r1, k1⟩
      | ret => exact ⟨_, t1, h1, ρ1, .ret, hq, ht1, hs1, hd1, r1, k1⟩
    | cond c x y =>
      cases code <;> first | (simp [chkCode] at hc; done) | skip
      rename_i cc cx cy
      simp only [chkCode, Bool.and_eq_true] at hc
      obtain ⟨⟨h1, h2⟩, h3⟩ := hc
      obtain ⟨v, h4, h5⟩ := ev_ok ht h1 hk
      obtain ⟨b, h6, h7⟩ := unB_ok h5 h4
      cases b with
      | true => exact wp_cond_true h6 (ih _ _ _ _ h7 nt cx h2 ρ B w a ht hsz r)
      | false => exact wp_cond_false h6 (ih _ _ _ _ h7 nt cy h3 ρ B w a ht hsz r)
    | blk id x =>
      cases code <;> first | (simp [chkCode] at hc; done) | skip
      rename_i id' cx
      simp only [chkCode, Bool.and_eq_true] at hc
      obtain rfl := eq_of_beq hc.1
      refine wp_block (wp_mono (ih _ _ _ _ hk nt cx hc.2 ρ B w a ht hsz r) ?_)
      rintro e a1 w1 ⟨x1, t1, h1, ρ1, hx, hq, ht1, hs1, hd1, r1, k1⟩
      cases hx with
      | normal => exact ⟨_, t1, h1, ρ1, .normal, hq, ht1, hs1, hd1, r1, k1⟩
      | ret => exact ⟨_, t1, h1, ρ1, .ret, hq, ht1, hs1, hd1, r1, k1⟩
      | exit id2 =>
        show (if id2 = id' then _ else _)
        have hq' : (Bool.rec (motive := fun _ => Prop) (Q (.exit id2) t1 h1) (Q .normal t1 h1) (Nat.beq id2 id') : Prop) := hq
        by_cases he : id2 = id'
        · rw [if_pos he]
          subst he
          rw [Nat.beq_refl] at hq'
          exact ⟨_, t1, h1, ρ1, .normal, hq', ht1, hs1, hd1, r1, k1⟩
        · rw [if_neg he]
          have hb : Nat.beq id2 id' = false := by
            cases hbb : Nat.beq id2 id' with
            | false => rfl
            | true => exact absurd (Nat.eq_of_beq_eq_true hbb) he
          rw [hb] at hq'
          exact ⟨_, t1, h1, ρ1, .exit id2, hq', ht1, hs1, hd1, r1, k1⟩
    | loop x =>
      cases code <;> first | (simp [chkCode] at hc; done) | skip
      rename_i cx
      obtain ⟨r', hr'⟩ := loop_ok (fun j hj => hall j (by omega)) x cx nt (by simpa [chkCode] using hc) (n + 1) (Nat.le_refl _) Q t h hk
      exact wp_loop_rounds r' (hr' ρ B w a ρ h w a.defers ht hsz rfl r (Kept.refl _ _ _ _))

theorem sound (horc : OrcOk P σ orc) (henv : EnvOk P env) (hdraw : DrawOk P σ orc env) (n : Nat) : Sound P σ (awp orc env n) := by
  induction n using Nat.strongRecOn with
  | _ n ih =>
    cases n with
    | zero => exact fun _ _ _ _ h => h.elim
    | succ n => exact sound_step horc henv hdraw n ih
end Go.Ab
