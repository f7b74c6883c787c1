/- The check that a piece of abstract code is a piece of the model's code; operands. No condition. -/
import Derived.Test.YtbcpapkjdphfpaaCore4
import Derived.Calls
import Derived.ChangeKeysEq
namespace Go.Ab
variable {σ : Nat → Value} {ρ ρ' : Ren}

mutual
def vrc : AV → Value → Bool
  | .b x, .bool y => x == y
  | .i k n, .int k' m => decide (k = k') && decide (n = m)
  | .s x, .string y => x == y.data.toList
  | .nilp, .pointer none => true
  | .nils, .slice none l c => l == 0 && c == 0
  | .nilf, .nilFunc => true
  | .nili, .nilIface => true
  | .nilm, .map none => true
  | .fn f a c, .func (.func g) a' c' => f == g && vrcs a a'.toList && vrcs c c'.toList
  | .ifc t v, .iface t' v' => t == t' && vrc v v'
  | .agg l, .agg l' => vrcs l l'.toList
  | .tup l, .tuple l' => vrcs l l'.toList
  | _, _ => false
def vrcs : List AV → List Value → Bool
  | [], [] => true
  | v :: vs, v' :: vs' => vrc v v' && vrcs vs vs'
  | _, _ => false
end

mutual
theorem vrc_ok : ∀ (a : AV) (v : Value), vrc a v = true → VR σ ρ a v
  | .b x, v, h => by cases v <;> simp [vrc] at h; subst h; exact .b _
  | .i k n, v, h => by cases v <;> simp [vrc] at h; obtain ⟨rfl, rfl⟩ := h; exact .i _ _
  | .s x, v, h => by
    cases v <;> simp [vrc] at h
    rename_i s; subst h; cases s; exact .s _
  | .nilp, v, h => by
    cases v <;> first | (simp [vrc] at h; done) | skip
    rename_i a; cases a <;> first | (simp [vrc] at h; done) | exact .nilp
  | .nils, v, h => by
    cases v <;> first | (simp [vrc] at h; done) | skip
    rename_i a l c; cases a <;> first | (simp [vrc] at h; done) | (simp [vrc] at h; obtain ⟨rfl, rfl⟩ := h; exact .nils)
  | .nilf, v, h => by cases v <;> simp [vrc] at h; exact .nilf
  | .nili, v, h => by cases v <;> simp [vrc] at h; exact .nili
  | .nilm, v, h => by
    cases v <;> first | (simp [vrc] at h; done) | skip
    rename_i a; cases a <;> first | (simp [vrc] at h; done) | exact .nilm
  | .fn f a c, v, h => by
    cases v <;> first | (simp [vrc] at h; done) | skip
    rename_i fn a' c'
    cases fn <;> first | (simp [vrc] at h; done) | skip
    simp [vrc] at h
    obtain ⟨⟨rfl, h1⟩, h2⟩ := h
    exact .fn _ _ _ _ _ (vrcs_ok _ _ h1) (vrcs_ok _ _ h2)
  | .ifc t v, v', h => by cases v' <;> simp [vrc] at h; obtain ⟨rfl, h1⟩ := h; exact .ifc _ _ _ (vrc_ok _ _ h1)
  | .agg l, v, h => by cases v <;> simp [vrc] at h; exact .agg _ _ (vrcs_ok _ _ h)
  | .tup l, v, h => by cases v <;> simp [vrc] at h; exact .tup _ _ (vrcs_ok _ _ h)
  | .ptr _ _, v, h => by cases v <;> simp [vrc] at h
  | .sl _ _ _ _ _, v, h => by cases v <;> simp [vrc] at h
  | .map _, v, h => by cases v <;> simp [vrc] at h
  | .sym _, v, h => by cases v <;> simp [vrc] at h
  | .undef, v, h => .undef v
theorem vrcs_ok : ∀ (a : List AV) (v : List Value), vrcs a v = true → VRs σ ρ a v
  | [], [], _ => .nil
  | v :: vs, v' :: vs', h => by simp [vrcs] at h; exact .cons _ _ _ _ (vrc_ok _ _ h.1) (vrcs_ok _ _ h.2)
  | [], _ :: _, h => by simp [vrcs] at h
  | _ :: _, [], h => by simp [vrcs] at h
end

def chkO : Operand → O → Bool
  | .tmp n, .t m => n == m
  | .const v, .c a => vrc a v
  | .func f, .c (.fn g [] []) => f == g
  | _, _ => false
def chkOs : List Operand → List O → Bool
  | [], [] => true
  | x :: xs, y :: ys => chkO x y && chkOs xs ys
  | _, _ => false
def chkOpt : Option Operand → Option O → Bool
  | none, none => true
  | some x, some y => chkO x y
  | _, _ => false

def isAggT (P : Program) (t : TypeId) : Bool := match P.underlying t with | some (.struct _) | some (.array _ _) => true | _ => false
def isNilC (q : NK) : Operand → Bool
  | .const (.pointer none) => (match q with | .ptr => true | _ => false)
  | .const (.slice none _ _) => (match q with | .slice => true | _ => false)
  | .const .nilFunc => (match q with | .func => true | _ => false)
  | .const .nilIface => (match q with | .iface => true | _ => false)
  | .const (.map none) => (match q with | .map => true | _ => false)
  | _ => false
def nilT (P : Program) (q : NK) (t : TypeId) : Bool :=
  match P.underlying t, q with
  | some (.pointer _), .ptr | some (.slice _), .slice | some (.func ..), .func | some (.map ..), .map | some (.interface _), .iface => true
  | _, _ => false
/-- the zero value of a type, and its number of cells -/
def chkZero (P : Program) (t : TypeId) (z : List AV) : Bool :=
  match P.info? t with
  | some i => match i.zero with | some v => vrcs z v.cells.toList && (v.cells.size == i.size) | none => false
  | none => false
def chkSize (P : Program) (t : TypeId) (n : Nat) : Bool := match P.info? t with | some i => i.size == n | none => false
def chkBytes (P : Program) (t : TypeId) (n : Nat) : Bool := match P.info? t with | some i => i.bytes == n | none => false
/-- a struct whose fields are one cell each, in order, each a bool, an integer or a string -/
def chkFields (P : Program) : Nat → List Field → List PK → Bool
  | _, [], [] => true
  | i, f :: fs, q :: qs => f.name != "_" && f.offset == i && (match P.underlying f.type, q with | some .bool, .b | some (.int _), .i | some .string, .s => true | _, _ => false) && chkFields P (i + 1) fs qs
  | _, _, _ => false
def chkFlat (P : Program) (t : TypeId) (qs : List PK) : Bool :=
  match P.underlying t with
  | some (.struct fs) => !P.stoodInHeld t && !P.eqGuardType P.depth t && chkFields P 0 fs.toList qs
  | _ => false
def chkParts (place : Nat → Option (Nat × Nat)) : List (Nat × Operand) → List (Nat × Nat × O) → Bool
  | [], [] => true
  | (i, x) :: xs, (off, n, y) :: ys => (place i == some (off, n)) && chkO x y && chkParts place xs ys
  | _, _ => false
def primT (P : Program) (t : TypeId) : Bool := match P.underlying t with | some (.int _) | some .string => true | _ => false
def fieldsOf (P : Program) (t : TypeId) : Option (Array Field) := match P.underlying t with | some (.struct fs) => some fs | _ => none
def elemOf (P : Program) (t : TypeId) : Option TypeId := match P.underlying t with | some (.slice e) => some e | _ => none
def arrOf (P : Program) (t : TypeId) : Option (Nat × TypeId) := match P.underlying t with | some (.array n e) => some (n, e) | _ => none
def isStrT (P : Program) (t : TypeId) : Bool := match P.underlying t with | some .string => true | _ => false
def intT (P : Program) (t : TypeId) (k : IntKind) : Bool := match P.underlying t with | some (.int q) => decide (q = k) | _ => false
def intAny (P : Program) (t : TypeId) : Bool := match P.underlying t with | some (.int _) => true | _ => false
def isBoolT (P : Program) (t : TypeId) : Bool := match P.underlying t with | some .bool => true | _ => false

def mapOf (P : Program) (t : TypeId) : Option (TypeId × TypeId) := match P.underlying t with | some (.map k e) => some (k, e) | _ => none
def keyKind (P : Program) (t : TypeId) (kd : Option IntKind) : Bool := match P.underlying t, kd with | some .string, none => true | some (.int q), some q' => decide (q = q') | _, _ => false
def chkZ1 (P : Program) (t : TypeId) (z : AV) : Bool := match P.info? t with | some j => (match j.zero with | some v => vrc z v | none => false) | none => false
def chkKey (P : Program) (t : TypeId) (kd : Option IntKind) : Bool := match mapOf P t with | some (key, _) => keyKind P key kd | none => false

def chkBuiltin (P : Program) (b : Builtin) (argTypes : Array TypeId) (args : List Operand) (r : IOp) : Bool :=
  match b, args, r with
  | .len, [_], .mov (.c (.i .i64 n)) => match (argTypes[0]?).bind (arrOf P) with | some (m, _) => decide (n = (m : Int)) | none => false
  | .len, [x], .len str y => chkO x y && (match argTypes[0]? with | some t => if str then isStrT P t else (elemOf P t).isSome | none => false)
  | .len, [x], .lenM y => chkO x y && ((argTypes[0]?).bind (mapOf P)).isSome
  | .append, [s, x], .app esz bytes _ s' x' => chkO s s' && chkO x x' && (match argTypes[0]?, argTypes[1]? with
    | some ts, some tx => (match elemOf P ts with
      | some e => chkSize P e esz && chkBytes P e bytes && (match P.info? e with | some i => (match i.zero with | some z => z.cells.size == i.size | none => false) | none => false)
      | none => false) && (isStrT P tx || (elemOf P tx).isSome)
    | _, _ => false)
  | .append, [s, x], .appF esz bytes s' x' => chkO s s' && chkO x x' && (match argTypes[0]?, argTypes[1]? with
    | some ts, some tx => (match elemOf P ts with
      | some e => chkSize P e esz && chkBytes P e bytes && (match P.info? e with | some i => (match i.zero with | some z => z.cells.size == i.size | none => false) | none => false)
      | none => false) && (isStrT P tx || (elemOf P tx).isSome)
    | _, _ => false)
  | .copy, [d, s], .copy esz d' s' => chkO d d' && chkO s s' && (argTypes[1]?).isSome && (match (argTypes[0]?).bind (elemOf P) with | some e => chkSize P e esz | none => false)
  | .max, [x, y], .max x' y' => chkO x x' && chkO y y'
  | .min, [x, y], .min x' y' => chkO x x' && chkO y y'
  | .clear, [x], .clear z y => chkO x y && (match (argTypes[0]?).bind (elemOf P) with | some e => chkZero P e z | none => false)
  | _, _, _ => false

def chkFld (P : Program) (f : Option Field) (off : Nat) (n : Option Nat) : Bool :=
  match f, n with
  | some fd, none => fd.offset == off && !isAggT P fd.type && (P.underlying fd.type).isSome
  | some fd, some n => fd.offset == off && isAggT P fd.type && chkSize P fd.type n
  | none, _ => false
def chkOp (P : Program) (o : Op) (r : IOp) : Bool :=
  match o, r with
  | .move x, .mov y | .assign x, .mov y => chkO x y
  | .pick c a b, .pick c' a' b' => chkO c c' && chkO a a' && chkO b b'
  | .alloc t, .alloc z => chkZero P t z
  | .box _ x, .box y => chkO x y
  | .build t ps, .build z qs => chkZero P t z && (match P.underlying t with
    | some (.struct fs) => chkParts (fun i => (fs[i]?).bind fun f => (P.info? f.type).map fun j => (f.offset, j.size)) ps.toList qs && fs.toList.all fun f => (P.info? f.type).isSome
    | some (.array _ e) => (match P.info? e with | some j => chkParts (fun i => some (i * j.size, j.size)) ps.toList qs | none => false)
    | _ => false)
  | .buildSlice t n ps, .buildS m z qs => n == m && (match elemOf P t with
    | some e => chkZero P e z && decide (n * z.length ≤ 16777216) && (match P.info? e with | some j => chkParts (fun i => some (i * j.size, j.size)) ps.toList qs | none => false)
    | none => false)
  | .load t x, .load1 y => chkO x y && !isAggT P t && (P.underlying t).isSome
  | .load t x, .loadN n y => chkO x y && isAggT P t && chkSize P t n
  | .store t x v, .store n x' v' => chkO x x' && chkO v v' && chkSize P t n
  | .store t x v, .storeD n x' v' _ => chkO x x' && chkO v v' && chkSize P t n
  | .nilCheck x, .nilChk y => chkO x y
  | .binOp op t x y _, .bin op' x' y' => decide (op = op') && chkO x x' && chkO y y' && primT P t
  | .binOp .eql t x y _, .eqB neg x' y' => !neg && chkO x x' && chkO y y' && isBoolT P t
  | .binOp .neq t x y _, .eqB neg x' y' => neg && chkO x x' && chkO y y' && isBoolT P t
  | .binOp .eql t x y _, .eqN neg q x' => !neg && ((chkO x x' && isNilC q y) || (chkO y x' && isNilC q x)) && nilT P q t
  | .binOp .neq t x y _, .eqN neg q x' => neg && ((chkO x x' && isNilC q y) || (chkO y x' && isNilC q x)) && nilT P q t
  | .binOp .eql t x y _, .eqA neg qs x' y' => !neg && chkO x x' && chkO y y' && chkFlat P t qs
  | .binOp .neq t x y _, .eqA neg qs x' y' => neg && chkO x x' && chkO y y' && chkFlat P t qs
  | .unOp op _ x, .un op' y => decide (op = op') && chkO x y
  | .convert s d x, .cvInt k y => chkO x y && (P.underlying s).isSome && intT P d k
  | .convert s d x, .cvStr y => chkO x y && isStrT P s && isStrT P d
  | .convert s d x, .s2b y => chkO x y && isStrT P s && (match elemOf P d with | some e => intT P e .u8 | none => false)
  | .convert s d x, .b2s y => chkO x y && isStrT P d && (match elemOf P s with | some e => intT P e .u8 | none => false)
  | .fieldAddr t x f, .fAddr off y => chkO x y && (match fieldsOf P t with | some fs => (match fs[f]? with | some fd => fd.offset == off && !chkSize P fd.type 0 && (P.info? fd.type).isSome | none => false) | none => false)
  | .field t x f, .fld off n y => chkO x y && chkFld P ((fieldsOf P t).bind (·[f]?)) off n
  | .indexAddr t x ix, .iAddrA len esz x' i' => chkO x x' && chkO ix i' && (match arrOf P t with | some (n, e) => n == len && chkSize P e esz | none => false)
  | .indexAddr t x ix, .iAddrS esz x' i' => chkO x x' && chkO ix i' && (match elemOf P t with | some e => chkSize P e esz | none => false)
  | .index t x ix, .idxA len esz agg x' i' => chkO x x' && chkO ix i' && (match arrOf P t with | some (n, e) => n == len && chkSize P e esz && isAggT P e == agg && (P.underlying e).isSome | none => false)
  | .index t x ix, .idxS x' i' => chkO x x' && chkO ix i' && isStrT P t
  | .slice t x lo hi mx, .slcS esz x' lo' hi' mx' => chkO x x' && chkOpt lo lo' && chkOpt hi hi' && chkOpt mx mx' && (match elemOf P t with | some e => chkSize P e esz | none => false)
  | .slice t x lo hi none, .slcStr x' lo' hi' => chkO x x' && chkOpt lo lo' && chkOpt hi hi' && isStrT P t
  | .slice t x lo hi mx, .slcA len esz x' lo' hi' mx' => chkO x x' && chkOpt lo lo' && chkOpt hi hi' && chkOpt mx mx' && (match arrOf P t with | some (n, e) => n == len && chkSize P e esz | none => false)
  | .extract x i, .ext y j => chkO x y && i == j
  | .makeFunc (.func f) a c, .mkF g a' c' => f == g && chkOs a.toList a' && chkOs c.toList c'
  | .makeSlice t l c, .mkS esz bytes z l' c' => chkO l l' && chkO c c' && (match elemOf P t with | some e => chkSize P e esz && chkBytes P e bytes && chkZero P e z | none => false)
  | .makeMap _ none, .mkM => true
  | .makeMap t (some (.const (.int _ _))), .mkM => (mapOf P t).isSome
  | .lookup t x i ok, .lookM kd ok' z x' i' => chkO x x' && chkO i i' && ok == ok' && chkKey P t kd && (match mapOf P t with | some (_, e) => chkZ1 P e z | none => false)
  | .mapUpdate t m i v, .updM kd m' i' v' => chkO m m' && chkO i i' && chkO v v' && chkKey P t kd
  | .insert t m i v, .updM kd m' i' v' => chkO m m' && chkO i i' && chkO v v' && chkKey P t kd
  | _, .no => true
  | .range t x, .rangeS y => chkO x y && isStrT P t
  | .next x true, .nextS y => chkO x y
  | .call { callee := .builtin b, args, argTypes }, r => chkBuiltin P b argTypes args.toList r
  | _, _ => false
def chkRK (P : Program) (o : Op) (r : RK) : Bool :=
  match o, r with
  | .call { callee := .value (.func f), args, .. }, .callF g bs => f == g && chkOs args.toList bs
  | .call { callee := .value x, args, .. }, .callV y bs => chkO x y && chkOs args.toList bs
  | o, .op r => chkOp P o r
  | _, _ => false

/-- the temporaries stand for one another -/
def TR (σ : Nat → Value) (ρ : Ren) (t : Tr AV) (tm : Array Value) : Prop := ∀ n v, t.get n = some v → n < tm.size ∧ VR σ ρ v (tm.getD n undef)
theorem TR.mono {t : Tr AV} {tm : Array Value} (h : TR σ ρ t tm) (hρ : ∀ b L, ρ b = some L → ρ' b = some L) : TR σ ρ' t tm :=
  fun n v hv => ⟨(h n v hv).1, (h n v hv).2.mono hρ⟩

theorem ev_ok {t : Tr AV} {a : Act} (ht : TR σ ρ t a.tmps) {x : O} {y : Operand} (hc : chkO y x = true) {k : AV → Prop} (h : evK t x k) : ∃ v, k v ∧ VR σ ρ v (a.eval y) := by
  cases x with
  | t n =>
    obtain ⟨v, hv, hk⟩ := (Tr.getK_iff _ _ _).1 h
    cases y <;> simp [chkO] at hc
    subst hc
    exact ⟨v, hk, (ht _ v hv).2⟩
  | c v =>
    refine ⟨v, h, ?_⟩
    cases y with
    | tmp n => simp [chkO] at hc
    | const u => exact vrc_ok v u (by simpa [chkO] using hc)
    | global g => simp [chkO] at hc
    | func f =>
      have : v = .fn f [] [] := by
        unfold chkO at hc
        split at hc <;> simp_all
      subst this
      exact .fn _ _ _ _ _ .nil .nil
theorem evs_ok {t : Tr AV} {a : Act} (ht : TR σ ρ t a.tmps) : ∀ {xs : List O} {ys : List Operand} (_ : chkOs ys xs = true) {k : List AV → Prop} (_ : evsK t xs k), ∃ vs, k vs ∧ VRs σ ρ vs (ys.map a.eval)
  | [], [], _, _, h => ⟨[], h, .nil⟩
  | x :: xs, y :: ys, hc, k, h => by
    simp [chkOs] at hc
    obtain ⟨v, h1, hv⟩ := ev_ok ht hc.1 h
    obtain ⟨vs, h2, hvs⟩ := evs_ok ht hc.2 h1
    exact ⟨v :: vs, h2, .cons _ _ _ _ hv hvs⟩
  | [], _ :: _, hc, _, _ => by simp [chkOs] at hc
  | _ :: _, [], hc, _, _ => by simp [chkOs] at hc
end Go.Ab
