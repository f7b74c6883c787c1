/- The abstract operations stand for the model's, one by one (seventh part: append, copy, clear, bytes and strings). No condition. -/
import Derived.Test.YtbcpapkjdphfpaaCore13
namespace Go.Ab
variable {σ : Nat → Value} {ρ ρ' : Ren} {P : Program}
section ops
variable {B : Nat} {h : Hp} {w : World} {a : Act} {t : Tr AV} {orc : Orc} {k : AV → Hp → Prop} {o : Oper}

theorem bytes_vr (l : List UInt8) : VRs σ ρ (l.map fun c => AV.i .u8 (Int.ofNat c.toNat)) (l.map fun c => Value.int .u8 (c.toNat : Int)) := by
  induction l with
  | nil => exact .nil
  | cons c l ih => exact .cons _ _ _ _ (.i _ _) ih

/-- what an append or a copy reads: so many elements, these cells -/
theorem src_ok (r : Rel σ ρ B h w) {esz : Nat} {x : AV} {x' : Value} (hx : VR σ ρ x x') {k : Nat → List AV → Prop} (hk : srcK h esz x k) :
    ∃ n cs vs, k n cs ∧ VRs σ ρ cs vs ∧ vs.length = n * esz ∧ (∀ w', w'.heap = w.heap → (Builtin.lenOf x').run P w' = .ok n w') ∧ (∀ m, m ≤ n → ∀ w', w'.heap = w.heap → (Builtin.firstCells esz m x').run P w' = .ok (vs.take (m * esz)).toArray w') := by
  cases x <;> try exact hk.elim
  · -- a string
    rename_i l
    obtain ⟨h1, h2⟩ := (whenK_iff _ _).1 hk
    rw [forceN_eq] at h2
    have he : esz = 1 := by simpa using h1
    subst he
    have e := hx.un_s
    refine ⟨l.length, _, _, h2, bytes_vr l, by simp, fun w' _ => by rw [e]; simp [Builtin.lenOf, ba_size], fun m hm w' _ => ?_⟩
    rw [e]
    simp only [Builtin.firstCells, Sem.run_pure, Nat.mul_one]
    congr 1
    apply Array.ext'
    rw [Array.toList_map, ByteArray.data_extract]
    simp [List.extract_eq_take_drop]
  · exact ⟨0, [], [], hk, .nil, by simp, fun w' _ => by rw [hx.un_nils]; simp [Builtin.lenOf], fun m hm w' _ => by rw [hx.un_nils]; simp [Builtin.firstCells]⟩
  · rename_i b o n cap loose
    obtain ⟨L, c, off, h1, h2, h3⟩ := hx.un_sl
    obtain ⟨cs, vs, h4, h5, h6, h7⟩ := lds_ok r h1 (show ldsK h b o (n * esz) (fun cs => k n cs) from hk)
    refine ⟨n, cs, vs, h4, h5, h6, fun w' _ => by rw [h2]; simp [Builtin.lenOf], fun m hm w' hw => ?_⟩
    rw [h2]
    simp only [Builtin.firstCells]
    have hmn : m * esz ≤ n * esz := Nat.mul_le_mul_right _ hm
    refine run_lds (by simp; omega) (fun j v hj => ?_)
    rw [List.getElem?_take] at hj
    split at hj
    · have := h7 j v hj
      rcases h3 with ⟨rfl, _⟩ | ⟨h3, _, _⟩
      · have hc : ∀ a, w'.cell? a = w.cell? a := fun a => by simp [World.cell?, hw]
        rw [hc]; exact this
      · subst h3; simp at hmn; omega
    · cases hj

theorem app_fit_run {ts tx rt elem : TypeId} {args : Array TypeId} (h0 : args[0]? = some ts) (h1 : args[1]? = some tx) (hu : P.underlying ts = some (.slice elem)) (hx : P.underlying tx = some .string ∨ ∃ e, P.underlying tx = some (.slice e)) {size : Nat} (hs : chkSize P elem size = true)
    {x' : Value} {n sLen sCap : Nat} {a0 : Option Addr} {new : Array Value} {w w' : World} (hl : (Builtin.lenOf x').run P w = .ok n w) (hf : (Builtin.firstCells size n x').run P w = .ok new w) (hfit : sLen + n ≤ sCap)
    (hst : ∀ a, a0 = some a → (storeCells (a.add (sLen * size)) new.toList).run P w = .ok () w') (hst0 : a0 = none → w' = w) :
    (Builtin.append_ args rt #[.slice a0 sLen sCap, x']).run P w = .ok (.slice a0 (sLen + n) sCap) w' := by
  rcases hx with hx | ⟨e, hx⟩ <;> cases a0 with
  | none => obtain rfl := hst0 rfl; simp [Builtin.append_, h0, h1, und_run hu, und_run hx, size_run hs, hl, hfit, hf]
  | some a => simp [Builtin.append_, h0, h1, und_run hu, und_run hx, size_run hs, hl, hfit, hf, hst a rfl]

theorem zeroCells_size (z : Array Value) (n : Nat) : (Builtin.zeroCells z n).size = n * z.size := by simp [Builtin.zeroCells]

theorem app_grow_run {ts tx rt elem : TypeId} {args : Array TypeId} (h0 : args[0]? = some ts) (h1 : args[1]? = some tx) (hu : P.underlying ts = some (.slice elem)) (hx : P.underlying tx = some .string ∨ ∃ e, P.underlying tx = some (.slice e)) {size : Nat} {i : TypeInfo} (hi : P.info? elem = some i) (hsz : i.size = size) {z : Value} (hz : i.zero = some z)
    {x' : Value} {n sLen sCap : Nat} {a0 : Option Addr} {new old : Array Value} {w : World} (hl : (Builtin.lenOf x').run P w = .ok n w) (hf : (Builtin.firstCells size n x').run P w.drew = .ok new w.drew) (ho : (Builtin.firstCells size sLen (.slice a0 sLen sCap)).run P w.drew = .ok old w.drew)
    (hgrow : sCap < sLen + n) (hb1 : sLen + n ≤ roomB) (hb2 : (sLen + n) * i.bytes ≤ roomB) :
    ∃ newCap rest w', sLen + n ≤ newCap ∧ rest.size = (newCap - (sLen + n)) * z.cells.size ∧ w'.heap = w.heap.push (.cells (old ++ new ++ rest) elem) ∧ (w'.os = w.os ∧ w'.output = w.output) ∧
      (Builtin.append_ args rt #[.slice a0 sLen sCap, x']).run P w = .ok (.slice (some ⟨w.heap.size, 0, none⟩) (sLen + n) newCap) w' := by
  have hn : ¬ (sLen + n ≤ sCap) := by omega
  have hb1' : sLen + n ≤ 70368744177664 := hb1
  have hb2' : (sLen + n) * i.bytes ≤ 70368744177664 := hb2
  have h63 : ¬ (IntKind.max .i64 < ((sLen + n : Nat) : Int)) := by show ¬ ((9223372036854775807 : Int) < _); omega
  have h63' : ¬ (9223372036854775807 < ((sLen : Int) + (n : Int))) := by omega
  have h48 : ¬ (281474976710656 < Builtin.nextslicecap (sLen + n) sCap * i.bytes) := by
    have := growslice_fits (bytes := i.bytes) hgrow (by omega); omega
  refine ⟨grownCap w (sLen + n) sCap elem, Builtin.zeroCells z.cells (grownCap w (sLen + n) sCap elem - (sLen + n)), w.drew.alloc (.cells (old ++ new ++ Builtin.zeroCells z.cells (grownCap w (sLen + n) sCap elem - (sLen + n))) elem), ?_, zeroCells_size _ _, rfl, ⟨rfl, rfl⟩, ?_⟩
  · exact Nat.le_add_right (sLen + n) _
  · rcases hx with hx | ⟨e, hx⟩ <;>
    simp [Builtin.append_, h0, h1, und_run hu, und_run hx, sizeOf, typeInfo, zeroValue, hi, hz, hsz, hl, hn, h63', h48, Question.forced, hf, ho, newRow, grownCap]

theorem VRs.pre {as : List AV} {c : Array Value} {vs rest : List Value} (h : VRs σ ρ as vs) (hc : c.toList = vs ++ rest) : ∃ z : List Value, c.toList = z ∧ VRs σ ρ as (z.take as.length) :=
  ⟨_, hc, by rw [h.length, List.take_left]; exact h⟩

theorem app_ok (hσ : AtomsOk σ) (r : Rel σ ρ B h w) (ht : TR σ ρ t a.tmps) {esz bytes : Nat} {consume : Bool} {s x : O} {s' x' : Operand} {ts tx elem : TypeId} {args : Array TypeId} {ops : Array Operand} (ho : o.op = .call ⟨.builtin .append, ops, args⟩) (hops : ops.toList = [s', x'])
    (h0' : args[0]? = some ts) (h1' : args[1]? = some tx) (he : elemOf P ts = some elem) (hx : P.underlying tx = some .string ∨ ∃ e, P.underlying tx = some (.slice e)) (hs : chkSize P elem esz = true) (hb : chkBytes P elem bytes = true) {i : TypeInfo} (hi : P.info? elem = some i) {z : Value} (hz : i.zero = some z) (hzs : z.cells.size = i.size)
    (hc1 : chkO s' s = true) (hc2 : chkO x' x = true) (hk : opK orc (.app esz bytes consume s x) t h k) : Res P σ ρ B h w (execOp a.eval o) k := by
  obtain rfl : ops = #[s', x'] := by cases ops; simpa using hops
  obtain ⟨i', hi', hsz⟩ := size_info hs
  rw [hi] at hi'; cases hi'
  obtain ⟨i', hi', hby⟩ := bytes_info hb
  rw [hi] at hi'; cases hi'
  obtain ⟨u, h2, h3⟩ := ev_ok ht hc1 hk
  obtain ⟨v, h4, h5⟩ := ev_ok ht hc2 h2
  obtain ⟨n, cs, vs, h6, h7, h8, h9, h10⟩ := src_ok (P := P) r h5 h4
  have hu := elemOf_some he
  have hexec : ∀ {r : Value} {w' : World}, (Builtin.append_ args o.type #[a.eval s', a.eval x']).run P w = .ok r w' → (execOp a.eval o).run P w = .ok (.value r) w' := by
    intro r w' hr; simp [execOp, ho, resolve, invoke, builtin, hr]
  have hfull : ∀ w', w'.heap = w.heap → (Builtin.firstCells esz n (a.eval x')).run P w' = .ok vs.toArray w' := by
    intro w' hw; have := h10 n (Nat.le_refl _) w' hw; rwa [← h8, List.take_length] at this
  cases u <;> try exact h6.elim
  · -- nil
    have es := h3.un_nils
    cases n with
    | zero =>
      have h6' : k .nils h := h6
      refine Res.pure r h6' (hexec ?_) .nils
      rw [es]
      exact app_fit_run h0' h1' hu hx hs (h9 w rfl) (hfull w rfl) (Nat.le_refl _) (fun _ hh => by cases hh) (fun _ => rfl)
    | succ n =>
      obtain ⟨h11, h12⟩ := (whenK_iff _ _).1 h6
      obtain ⟨h13, h14⟩ := (whenK_iff _ _).1 h12
      rw [bleD] at h11 h13
      have g1 : n + 1 ≤ roomB := of_decide_eq_true h11
      have g2 : (n + 1) * bytes ≤ roomB := of_decide_eq_true h13
      obtain ⟨newCap, rest, w', g3, g4, g5, gio, g6⟩ := app_grow_run (rt := o.type) h0' h1' hu hx hi hsz hz (h9 w rfl) (hfull w.drew rfl) (old := #[]) (a0 := none) (sLen := 0) (sCap := 0) (by simp [Builtin.firstCells]) (by omega) (by omega) (by rw [hby]; simpa using g2)
      have hsize : (#[] ++ vs.toArray ++ rest : Array Value).toList = vs ++ rest.toList := by simp
      obtain ⟨ρ', h', g7, g8, g9, g10⟩ := new_ok (w1 := w') r (c := #[] ++ vs.toArray ++ rest) (VRs.pre h7 hsize) h14 g5 (hio := gio)
      refine ⟨_, _, h', ρ', w', g7, .inl (hexec (by rw [es]; exact g6)), ?_, g8, g9⟩
      have := VR.sl (σ := σ) h.sz 0 (n + 1) (n + 1) newCap true _ g10 (.inr ⟨rfl, by omega, by
        have e1 : (#[] ++ vs.toArray ++ rest : Array Value).size = (n + 1) * esz + (newCap - (0 + (n + 1))) * esz := by
          rw [Array.size_append, g4, hzs, hsz]; simp [h8]
        rw [e1]; show 0 + 0 + newCap * esz ≤ _
        rw [← Nat.add_mul]; apply Nat.le_of_eq; rw [Nat.zero_add, Nat.zero_add]; congr 1; omega⟩)
      simpa using this
  · rename_i b o' len cap loose
    obtain ⟨L, c, off, g1, g2, g3⟩ := h3.un_sl
    have hcc : cap ≤ c := by rcases g3 with ⟨_, h | h⟩ | ⟨_, h, h'⟩ <;> omega
    have h6' : (Bool.rec (motive := fun _ => Prop)
        (whenK (Nat.ble (len + n) roomB) (whenK (Nat.ble ((len + n) * bytes) roomB) (Bool.rec (motive := fun _ => Prop)
          (ldsK h b o' (len * esz) (fun old => catK old cs (fun cs => newK h (.cells esz true true cs) (fun b' h' => k (.sl b' 0 (len + n) (len + n) true) h'))))
          (cellsK h b (fun e w a cs0 => whenK (cellsOk cs) (whenK a (whenK (Nat.beq e esz) (dropK o' cs0 (fun old => lenK old (fun m => whenK (Nat.beq m (len * esz)) (catK old cs (fun cs' =>
            Bool.rec (motive := fun _ => Prop)
              (putK h b (.cells e false false cs0) (fun h1 => newK h1 (.cells esz false true cs') (fun b' h' => k (.sl b' 0 (len + n) (len + n) true) h')))
              (putK h b .dead (fun h1 => newK h1 (.cells esz w true cs') (fun b' h' => k (.sl b' 0 (len + n) (len + n) true) h')))
              consume)))))))))
          loose)))
        (Nat.rec (motive := fun _ => Prop) (k (.sl b o' (len + n) cap loose) h) (fun _ _ => forceN (o' + len * esz) (fun at_ => stK h b at_ cs (fun h' => k (.sl b o' (len + n) cap loose) h'))) n)
        (Nat.ble (len + n) cap) : Prop) := by
      exact (Iff.of_eq (forceN_eq (len + n) _)).1 h6
    clear h6
    rw [brec_iff, bleD] at h6'
    rcases h6' with ⟨hble, h6⟩ | ⟨hble, h6⟩
    · -- it does not fit
      have hgr : cap < len + n := by simpa using hble
      obtain ⟨h11, h12⟩ := (whenK_iff _ _).1 h6
      obtain ⟨h13, h14⟩ := (whenK_iff _ _).1 h12
      rw [bleD] at h11 h13
      have b1 : len + n ≤ roomB := of_decide_eq_true h11
      have b2 : (len + n) * bytes ≤ roomB := of_decide_eq_true h13
      -- where the row is made anew
      have anew : ∀ {h1 : Hp} {wf af : Bool} {ds : List AV} {us : List Value}, Rel σ ρ B h1 w → Kept ρ B h w ρ h1 w → c < len + n → VRs σ ρ ds us → us.length = len * esz →
          (∀ w', w'.heap = w.heap → (Builtin.firstCells esz len (a.eval s')).run P w' = .ok us.toArray w') → newK h1 (.cells esz wf af (ds ++ cs)) (fun b' h' => k (.sl b' 0 (len + n) (len + n) true) h') → Res P σ ρ B h w (execOp a.eval o) k := by
        intro h1 wf af ds us r1 k1 hlt hds hul hold hnew
        rw [g2] at hold
        obtain ⟨newCap, rest, w', e3, e4, e5, eio, e6⟩ := app_grow_run (rt := o.type) (a0 := some ⟨L.blk, off, none⟩) (sLen := len) (sCap := c) h0' h1' hu hx hi hsz hz (h9 w rfl) (hfull w.drew rfl) (old := us.toArray) (hold w.drew rfl) hlt b1 (by rw [hby]; exact b2)
        have hsize : (us.toArray ++ vs.toArray ++ rest : Array Value).toList = (us ++ vs) ++ rest.toList := by simp
        obtain ⟨ρ', h', e7, e8, e9, e10⟩ := new_ok (w1 := w') r1 (c := us.toArray ++ vs.toArray ++ rest) (VRs.pre (hds.append h7) hsize) hnew e5 (hio := eio)
        refine ⟨_, _, h', ρ', w', e7, .inl (hexec (by rw [g2]; exact e6)), ?_, e8, k1.trans e9⟩
        have := VR.sl (σ := σ) h1.sz 0 (len + n) (len + n) newCap true _ e10 (.inr ⟨rfl, by omega, by
          have e1 : (us.toArray ++ vs.toArray ++ rest : Array Value).size = (len * esz + n * esz) + (newCap - (len + n)) * esz := by
            rw [Array.size_append, e4, hzs, hsz]; simp [h8, hul]
          have e2 : len + n + (newCap - (len + n)) = newCap := by omega
          rw [e1, ← Nat.add_mul, ← Nat.add_mul, e2]; show 0 + 0 + newCap * esz ≤ newCap * esz
          omega⟩)
        simpa using this
      have loadRow : ∀ {us : List Value}, us.length = len * esz → (∀ j v, us[j]? = some v → w.cell? ⟨L.blk, L.off + o' + j, none⟩ = some v) → ∀ w', w'.heap = w.heap → (Builtin.firstCells esz len (a.eval s')).run P w' = .ok us.toArray w' := by
        intro us hul hus w' hw
        rw [g2]
        simp only [Builtin.firstCells]
        refine run_lds hul (fun j v hj => ?_)
        have hc : ∀ a, w'.cell? a = w.cell? a := fun a => by simp [World.cell?, hw]
        rcases g3 with ⟨rfl, _⟩ | ⟨g3, _, _⟩
        · rw [hc]; exact hus j v hj
        · subst g3; simp at hul; subst hul; simp at hj
      rw [brec_iff] at h14
      rcases h14 with ⟨rfl, h15⟩ | ⟨rfl, h15⟩
      · -- the capacity is known
        obtain ⟨ds, us, e1, e2, e3, e4⟩ := lds_ok r g1 h15
        rw [catK_iff] at e1
        have hlt : c < len + n := by rcases g3 with ⟨_, h | h⟩ | ⟨_, h, h'⟩ <;> first | omega | cases h.1
        exact anew r (Kept.refl _ _ _ _) hlt e2 e3 (loadRow e3 e4) e1
      · obtain ⟨e, wf, af, cs0, hg, e1⟩ := (cellsK_iff _ _ _).1 h15
        obtain ⟨hco, e2⟩ := (whenK_iff (cellsOk cs) _).1 e1
        obtain ⟨haf, e3⟩ := (whenK_iff af _).1 e2
        obtain ⟨hee, e4⟩ := (whenK_iff (Nat.beq e esz) _).1 e3
        clear h15 e1 e2 e3
        subst haf
        have hee : e = esz := Nat.eq_of_beq_eq_true hee
        subst hee
        obtain ⟨hol, e1⟩ := (dropK_iff _ _ _).1 e4
        rw [lenK_iff] at e1
        obtain ⟨hm, e1⟩ := (whenK_iff _ _).1 e1
        have hm : cs0.length - o' = len * e := by simpa using hm
        rw [catK_iff, brec_iff] at e1
        have e1' : ∃ y wf2, ((y = .dead ∧ wf2 = wf) ∨ (y = .cells e false false cs0 ∧ wf2 = false)) ∧ h.fl ≤ b ∧ newK (h.put b y) (.cells e wf2 true (cs0.drop o' ++ cs)) (fun b' h' => k (.sl b' 0 (len + n) (len + n) true) h') := by
          rcases e1 with ⟨_, e1⟩ | ⟨_, e1⟩
          · obtain ⟨hf, e1⟩ := (putK_iff _ _ _ _).1 e1; exact ⟨_, _, .inr ⟨rfl, rfl⟩, hf, e1⟩
          · obtain ⟨hf, e1⟩ := (putK_iff _ _ _ _).1 e1; exact ⟨_, _, .inl ⟨rfl, rfl⟩, hf, e1⟩
        obtain ⟨y, wf2, hy, hf, hnew⟩ := e1'
        obtain ⟨hLe, cc, cty, cfz, f1, f2, f3, f4, f5⟩ := r.cells b L e wf true cs0 g1 hg
        by_cases hlt : c < len + n
        · obtain ⟨r1, k1⟩ := r.weak hg hf y (hy.imp (·.1) (·.1))
          have hrow : ∃ us, VRs σ ρ (cs0.drop o') us ∧ us.length = len * e ∧ (∀ j v, us[j]? = some v → w.cell? ⟨L.blk, L.off + o' + j, none⟩ = some v) := by
            obtain ⟨ds, us, e1, e2, e3, e4⟩ := lds_ok r g1 (off := o') (n := len * e) (k := fun l => l = cs0.drop o') (by
              refine (cellsK_iff _ _ _).2 ⟨_, _, _, _, hg, (dropK_iff _ _ _).2 ⟨hol, (takeK_iff _ _ _).2 ⟨by simp; omega, ?_⟩⟩⟩
              rw [List.take_of_length_le (by simp; omega)])
            subst e1
            exact ⟨us, e2, e3, e4⟩
          obtain ⟨us, e2, e3, e4⟩ := hrow
          exact anew r1 k1 hlt e2 e3 (loadRow e3 e4) hnew
        · -- in place
          have hoff : off = L.off + o' := by rcases g3 with ⟨g3, _⟩ | ⟨_, _, g3⟩ <;> omega
          have hcsz : L.off + o' + c * L.esz ≤ L.size := by
            rcases g3 with ⟨_, g3 | ⟨_, _, g3⟩⟩ | ⟨_, _, g3⟩
            · omega
            · exact g3
            · omega
          rw [hLe] at hcsz
          have hmul : (len + n) * e ≤ c * e := Nat.mul_le_mul_right _ (by omega)
          rw [Nat.add_mul] at hmul
          have hcl := h7.length
          obtain ⟨cc', hspl, hw⟩ := setCells_spl vs (L.off + cs0.length) w cc f1 (by rw [h8]; omega)
          obtain ⟨r2, k2⟩ := r.grow g1 hg hf o' hol cs vs h7 (by rw [hcl, h8]; omega) y wf2 hy f1 hspl hw (setCells_io _ _ _ _)
          have hst := run_storeCells_cells (P := P) L.blk (L.off + cs0.length) vs 0 w (fun j hj => by
              rw [cell?_of f1]; simp; omega) (fun j hj => by
              rw [frozen?_of f1]; simp only [decide_eq_false_iff_not]; exact f5 (by simp) _ (by omega)) (cellsOk_ok hσ h7 hco)
          have hnew' := (newK_iff _ _ _).1 hnew
          refine ⟨_, .slice (some ⟨L.blk, off, none⟩) (len + n) c, _, _, w.setCells L.blk (L.off + cs0.length) vs, hnew', .inl (hexec ?_), ?_, r2, k2⟩
          · rw [g2]
            refine app_fit_run h0' h1' hu hx hs (h9 w rfl) (hfull w rfl) (by omega) (fun a0 ha0 => ?_) (fun hh => by cases hh)
            cases ha0
            rw [add_none, hoff]
            rw [show L.off + o' + len * e = L.off + cs0.length from by omega]
            simpa using hst
          · rw [hoff]
            have this : VR σ (ρ.add h.sz ⟨L.blk, L.off + o', L.size, e⟩) (.sl h.sz 0 (len + n) (len + n) true) (.slice (some ⟨L.blk, L.off + o', none⟩) (len + n) c) := by
              simpa using VR.sl (σ := σ) (ρ := ρ.add h.sz ⟨L.blk, L.off + o', L.size, e⟩) h.sz 0 (len + n) (len + n) c true ⟨L.blk, L.off + o', L.size, e⟩ (Ren.add_self _ _ _) (.inr ⟨rfl, by omega, by simpa using hcsz⟩)
            exact this
    · -- it fits
      have hfit : len + n ≤ cap := by simpa using hble
      cases n with
      | zero =>
        have h6' : k (.sl b o' len cap loose) h := h6
        refine Res.pure r h6' (v' := a.eval s') (hexec ?_) h3
        rw [g2]
        have hvs : vs = [] := by simpa using h8
        have := app_fit_run (rt := o.type) (a0 := some ⟨L.blk, off, none⟩) (sLen := len) (sCap := c) (w' := w) h0' h1' hu hx hs (h9 w rfl) (hfull w rfl) (by omega) (fun a0 ha0 => by subst hvs; rfl) (fun hh => by cases hh)
        simpa using this
      | succ n =>
        have hoff : off = L.off + o' := by rcases g3 with ⟨g3, _⟩ | ⟨_, g3, _⟩ <;> omega
        have h6' : stK h b (o' + len * esz) cs (fun h' => k (.sl b o' (len + (n + 1)) cap loose) h') := by
          exact (Iff.of_eq (forceN_eq (o' + len * esz) _)).1 h6
        obtain ⟨h', w', e1, e2, e3, e4⟩ := st_ok (P := P) hσ r g1 h7 h6'
        refine ⟨_, .slice (some ⟨L.blk, off, none⟩) (len + (n + 1)) c, h', ρ, w', e1, .inl (hexec ?_), ?_, e2, e3⟩
        · rw [g2]
          refine app_fit_run h0' h1' hu hx hs (h9 w rfl) (hfull w rfl) (by omega) (fun a0 ha0 => ?_) (fun hh => by cases hh)
          cases ha0
          rw [add_none, hoff, Nat.add_assoc]
          exact e4
        · rw [hoff]
          refine .sl _ _ _ _ _ _ L g1 ?_
          rcases g3 with ⟨_, g3⟩ | ⟨_, g3, _⟩
          · exact g3
          · omega

theorem copy_ok (hσ : AtomsOk σ) (r : Rel σ ρ B h w) (ht : TR σ ρ t a.tmps) {esz : Nat} {d s : O} {d' s' : Operand} {td elem : TypeId} {args : Array TypeId} {ops : Array Operand} (ho : o.op = .call ⟨.builtin .copy, ops, args⟩) (hops : ops.toList = [d', s'])
    (h0 : args[0]? = some td) (_h1 : (args[1]?).isSome = true) (he : elemOf P td = some elem) (hs : chkSize P elem esz = true) (hc1 : chkO d' d = true) (hc2 : chkO s' s = true) (hk : opK orc (.copy esz d s) t h k) : Res P σ ρ B h w (execOp a.eval o) k := by
  obtain rfl : ops = #[d', s'] := by cases ops; simpa using hops
  obtain ⟨u, h2, h3⟩ := ev_ok ht hc1 hk
  obtain ⟨v, h4, h5⟩ := ev_ok ht hc2 h2
  have hu := elemOf_some he
  have hexec : ∀ {r : Value} {w' : World}, (Builtin.copy_ args o.type #[a.eval d', a.eval s']).run P w = .ok r w' → (execOp a.eval o).run P w = .ok (.value r) w' := by
    intro r w' hr; simp [execOp, ho, resolve, invoke, builtin, hr]
  cases u <;> try exact h4.elim
  · obtain ⟨n, cs, vs, h6, h7, h8, h9, h10⟩ := src_ok (P := P) r h5 (show srcK h esz v (fun _ _ => k (.i .i64 0) h) from h4)
    have ed := h3.un_nils
    refine Res.pure r h6 (v' := .int .i64 0) (hexec ?_) (.i _ _)
    rw [ed]
    have hf := h10 0 (Nat.zero_le _) w rfl
    simp [Builtin.copy_, h0, und_run hu, h9 w rfl, size_run hs, goInt] at hf ⊢
    simp [hf]
  · rename_i b o' len cap loose
    obtain ⟨L, c, off, g1, g2, g3⟩ := h3.un_sl
    obtain ⟨n, cs, vs, h6, h7, h8, h9, h10⟩ := src_ok (P := P) r h5 (show srcK h esz v (fun n new => forceN (min n len) (fun m => takeK (Nat.mul m esz) new (fun cs => stK h b o' cs (fun h' => k (.i .i64 (Int.ofNat m)) h')))) from h4)
    have h6' := (Iff.of_eq (forceN_eq (min n len) _)).1 h6
    obtain ⟨h11, h12⟩ := (takeK_iff _ _ _).1 h6'
    have hv := h7.take (Nat.mul (min n len) esz)
    obtain ⟨h', w', e1, e2, e3, e4⟩ := st_ok (P := P) hσ r g1 hv h12
    refine ⟨_, .int .i64 ((min n len : Nat) : Int), h', ρ, w', e1, .inl (hexec ?_), .i _ _, e2, e3⟩
    have hf := h10 (min n len) (Nat.min_le_left _ _) w rfl
    have hst : (storeCells ⟨L.blk, off, none⟩ (vs.take (min n len * esz))).run P w = .ok () w' := by
      rcases g3 with ⟨rfl, _⟩ | ⟨g3, _, _⟩
      · exact e4
      · subst g3
        have e5 : vs.take (Nat.mul (min n 0) esz) = [] := by simp
        rw [e5] at e4
        have e6 : vs.take (min n 0 * esz) = [] := by simp
        rw [e6]
        exact e4
    rw [g2]
    simp [Builtin.copy_, h0, und_run hu, h9 w rfl, size_run hs, goInt, Nat.min_def] at hf ⊢
    simp only [Nat.min_def] at hst
    simp [hf, hst]

theorem clear_ok (hσ : AtomsOk σ) (r : Rel σ ρ B h w) (ht : TR σ ρ t a.tmps) {z : List AV} {x : O} {x' : Operand} {td elem : TypeId} {args : Array TypeId} {ops : Array Operand} (ho : o.op = .call ⟨.builtin .clear, ops, args⟩) (hops : ops.toList = [x'])
    (h0 : args[0]? = some td) (he : elemOf P td = some elem) (hz : chkZero P elem z = true) (hc1 : chkO x' x = true) (hk : opK orc (.clear z x) t h k) : Res P σ ρ B h w (execOp a.eval o) k := by
  obtain rfl : ops = #[x'] := by cases ops; simpa using hops
  obtain ⟨i, v, h1, h2, h3, h4⟩ := zero_info hz
  have hv := vrcs_ok (σ := σ) (ρ := ρ) _ _ h3
  obtain ⟨u, h5, h6⟩ := ev_ok ht hc1 hk
  have hu := elemOf_some he
  have hexec : ∀ {r : Value} {w' : World}, (Builtin.clear_ args o.type #[a.eval x']).run P w = .ok r w' → (execOp a.eval o).run P w = .ok (.value r) w' := by
    intro r w' hr; simp [execOp, ho, resolve, invoke, builtin, hr]
  cases u <;> try exact h5.elim
  · refine Res.pure r (v := .tup []) h5 (v' := .tuple #[]) (hexec ?_) (.tup _ _ .nil)
    rw [h6.un_nils]
    simp [Builtin.clear_, h0, und_run hu]
  · rename_i b o' len cap loose
    obtain ⟨L, c, off, g1, g2, g3⟩ := h6.un_sl
    cases len with
    | zero =>
      have h5' : k (.tup []) h := h5
      refine Res.pure r (v := .tup []) h5' (v' := .tuple #[]) (hexec ?_) (.tup _ _ .nil)
      rw [g2]
      simp [Builtin.clear_, h0, und_run hu]
    | succ n =>
      have hoff : off = L.off + o' := by rcases g3 with ⟨g3, _⟩ | ⟨g3, _, _⟩ <;> omega
      have h5' : repK z (n + 1) (fun cs => stK h b o' cs (fun h' => k (.tup []) h')) := h5
      rw [repK_iff] at h5'
      have hrep := rep_ok hv (n + 1) v.cells (.inr rfl)
      obtain ⟨h', w', e1, e2, e3, e4⟩ := st_ok (P := P) hσ r g1 hrep h5'
      refine ⟨.tup [], .tuple #[], h', ρ, w', e1, .inl (hexec ?_), .tup _ _ .nil, e2, e3⟩
      have hl := hv.length
      rw [g2, hoff]
      have e5 : (Builtin.zeroCells v.cells (n + 1)).toList = ((Array.range ((n + 1) * z.length)).map (fun i => v.cells[i % v.cells.size]!)).toList := by
        simp only [Builtin.zeroCells]
        rw [show v.cells.size = z.length from by simpa using hl.symm]
      rw [← e5] at e4
      simp [Builtin.clear_, h0, und_run hu, zero_run h1 h2, e4]

theorem s2b_ok (r : Rel σ ρ B h w) (ht : TR σ ρ t a.tmps) {x : O} {y : Operand} {s d e : TypeId} (ho : o.op = .convert s d y) (hc : chkO y x = true) (hs : isStrT P s = true) (hd : elemOf P d = some e) (he : intT P e .u8 = true) (hk : opK orc (.s2b x) t h k) : Res P σ ρ B h w (execOp a.eval o) k := by
  obtain ⟨v, h1, h2⟩ := ev_ok ht hc hk
  cases v <;> try exact h1.elim
  rename_i l
  have ey := h2.un_s
  have h1' := (Iff.of_eq (forceN_eq l.length _)).1 h1
  let cap := grownCap w l.length 0 e
  let row : Array Value := (⟨l.toArray⟩ : ByteArray).data.map (fun b => Value.int .u8 b.toNat) ++ Array.replicate (cap - l.length) (.int .u8 0)
  have hrow : row.toList = (l.map fun c => Value.int .u8 (c.toNat : Int)) ++ List.replicate (cap - l.length) (.int .u8 0) := by simp [row]
  have hcap : l.length ≤ cap := Nat.le_add_right l.length _
  have hsz : row.size = cap := by simp [row]; omega
  let w1 : World := (w.drew.alloc (.cells row e)).freeze ⟨w.heap.size, row.size, none⟩ 1
  have hw1 : w1.heap = w.heap.push (.cells row e (row.size, row.size + 1)) := by
    simp only [w1, World.freeze]
    rw [if_neg (by decide)]
    apply Array.ext_getElem?
    intro i
    rw [Array.getElem?_modify]
    have e1 : (w.drew.alloc (Obj.cells row e)).heap = w.heap.push (.cells row e) := rfl
    rw [e1]
    by_cases hi : i = w.heap.size
    · subst hi; simp
    · rw [if_neg (fun h => hi h.symm), Array.getElem?_push, Array.getElem?_push, if_neg hi, if_neg hi]
  have hrun : (execOp a.eval o).run P w = .ok (.value (.slice (some ⟨w.heap.size, 0, none⟩) l.length cap)) w1 := by
    have hsh : (w.drew.alloc (Obj.cells row e)).shape? w.heap.size = some (e, row.size) := by
      have e1 : (w.drew.alloc (Obj.cells row e)).heap = w.heap.push (.cells row e) := rfl
      simp [World.shape?, e1]
    have hq : (choose (.appendCap l.length 0 e)).run P w = .ok cap w.drew := by simp [Question.forced]; rfl
    simp only [execOp, ho, convert, Sem.run_bind, und_run (isStrT_some hs), und_run (elemOf_some hd), und_run (intT_some he), Result.andThen_ok, ey, Conv.stringToBytes, ba_size, hq, newRow, run_newObj, Sem.run_pure, markStringish, run_shape]
    have hsh' : ({ w.drew with heap := w.drew.heap.push (Obj.cells row e) } : World).shape? w.drew.heap.size = some (e, row.size) := hsh
    simp only [row, cap] at hsh' ⊢
    simp only [hsh']
    simp only [run_freeze, Result.andThen_ok]
    rfl
  obtain ⟨ρ', h', g1, g2, g3, g4⟩ := new_ok (w1 := w1) r (c := row) (VRs.pre (bytes_vr l) hrow) h1' hw1 (fun j hj hh => by omega) (by simp only [w1, World.freeze]; rw [if_neg (by decide)]; exact ⟨rfl, rfl⟩)
  refine ⟨_, _, h', ρ', w1, g1, .inl hrun, ?_, g2, g3⟩
  have := VR.sl (σ := σ) h.sz 0 l.length l.length cap true _ g4 (.inr ⟨rfl, hcap, by simp [hsz]⟩)
  simpa using this

theorem toBytes_cons {v : AV} {cs : List AV} {k : List UInt8 → Prop} (h : toBytesK (v :: cs) k) : ∃ m : Nat, v = .i .u8 (m : Int) ∧ toBytesK cs (fun l => k (UInt8.ofNat m :: l)) := by
  cases v <;> try exact h.elim
  rename_i q n
  cases q <;> try exact h.elim
  cases n with
  | ofNat m => exact ⟨m, rfl, h⟩
  | negSucc m => exact h.elim
theorem toBytes_ok : ∀ {cs : List AV} {vs : List Value} (_ : VRs σ ρ cs vs) {k : List UInt8 → Prop} (_ : toBytesK cs k), ∃ l : List UInt8, k l ∧ vs.length = l.length ∧ ∃ ns : List Int, vs = ns.map (Value.int .u8) ∧ ns.map (fun n => UInt8.ofNat n.toNat) = l
  | [], _, .nil, k, hk => ⟨[], hk, rfl, [], rfl, rfl⟩
  | v :: cs, _, .cons _ _ v' vs' h1 h2, k, hk => by
    obtain ⟨m, rfl, hk'⟩ := toBytes_cons hk
    obtain ⟨l, h3, h4, ns, h5, h6⟩ := toBytes_ok h2 hk'
    have e := h1.un_i
    subst e
    exact ⟨_, h3, by simp [h4], (m : Int) :: ns, by simp [h5], by simp [h6]⟩

theorem b2s_ok (r : Rel σ ρ B h w) (ht : TR σ ρ t a.tmps) {x : O} {y : Operand} {s d e : TypeId} (ho : o.op = .convert s d y) (hc : chkO y x = true) (hd : isStrT P d = true) (hs : elemOf P s = some e) (he : intT P e .u8 = true) (hk : opK orc (.b2s x) t h k) : Res P σ ρ B h w (execOp a.eval o) k := by
  obtain ⟨v, h1, h2⟩ := ev_ok ht hc hk
  have hexec : ∀ {u : Value}, (convert s d (a.eval y)).run P w = .ok u w → (execOp a.eval o).run P w = .ok (.value u) w := by
    intro u hu; simp [execOp, ho, hu]
  cases v <;> try exact h1.elim
  · refine Res.pure r h1 (v' := .string ⟨([] : List UInt8).toArray⟩) (hexec ?_) (.s _)
    rw [h2.un_nils, run_convert_bytes_string w s d e _ _ _ (elemOf_some hs) (intT_some he) (isStrT_some hd)]
    simp [Conv.bytesToString]; rfl
  · rename_i b o' len cap loose
    obtain ⟨L, c, off, g1, g2, g3⟩ := h2.un_sl
    obtain ⟨cs, vs, h3, h4, h5, h6⟩ := lds_ok r g1 (show ldsK h b o' len (fun cs => toBytesK cs (fun l => k (.s l) h)) from h1)
    obtain ⟨l, h7, h8, ns, h9, h10⟩ := toBytes_ok h4 h3
    refine Res.pure r h7 (hexec ?_) (.s _)
    have hl : (loadCells ⟨L.blk, off, none⟩ len).run P w = .ok (ns.map (Value.int .u8)).toArray w := by
      rw [← h9]
      refine run_lds h5 (fun j v hj => ?_)
      rcases g3 with ⟨rfl, _⟩ | ⟨g3, _, _⟩
      · exact h6 j v hj
      · subst g3; simp at h5; subst h5; simp at hj
    rw [g2, run_convert_bytes_string w s d e _ _ _ (elemOf_some hs) (intT_some he) (isStrT_some hd), run_bytesToString w _ _ _ ns hl]
    have key : ∀ (ns : List Int) (s : ByteArray), (ns.foldl (fun r n => r.push (UInt8.ofNat n.toNat)) s).data.toList = s.data.toList ++ ns.map (fun n => UInt8.ofNat n.toNat) := by
      intro ns
      induction ns with
      | nil => intro s; simp
      | cons n ns ih => intro s; rw [List.foldl_cons, ih]; simp [ByteArray.push]
    congr 2
    apply ByteArray.ext
    apply Array.ext'
    rw [key, h10]
    have he0 : ByteArray.empty.data = #[] := rfl
    rw [he0]; simp
end ops
end Go.Ab
