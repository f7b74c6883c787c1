/- Part 5 of the abstract machine and of the functions' walks. Conditions: with each theorem. -/
import Derived.Test.YtdmjpfekglajoaaK4
set_option linter.unusedSimpArgs false
set_option linter.unusedVariables false
set_option linter.unnecessarySimpa false
set_option linter.defProp false
section
/- Rules for the operations. No condition. -/
namespace Go.Kc
variable {P:Program} {n:Nat} {C:CallsB} {d:Bool} {Q:Tr AV → Hp → Prop} {t:Tr AV} {h:Hp} {k:AV → Hp → Prop}

def evA (v:AV) (k:AV → Prop):Prop:=k v
@[congr] theorem evA_congr {v v':AV} {k:AV → Prop} {mk:Prop} (_:Mark = mk) (h:v = v'):evA v k = evA v' k:=by rw [h]
theorem evA_iff {v:AV} {k:AV → Prop}:evA v k ↔ k v:=Iff.rfl
def evL (v:List AV) (k:List AV → Prop):Prop:=k v
@[congr] theorem evL_congr {v v':List AV} {k:List AV → Prop} {mk:Prop} (_:Mark = mk) (h:v = v'):evL v k = evL v' k:=by rw [h]
theorem evL_iff {v:List AV} {k:List AV → Prop}:evL v k ↔ k v:=Iff.rfl
def evN (v:Nat) (k:Nat → Prop):Prop:=k v
@[congr] theorem evN_congr {v v':Nat} {k:Nat → Prop} {mk:Prop} (_:Mark = mk) (h:v = v'):evN v k = evN v' k:=by rw [h]
theorem evN_iff {v:Nat} {k:Nat → Prop}:evN v k ↔ k v:=Iff.rfl
def evT (v:Bool) (k:Bool → Prop):Prop:=k v
@[congr] theorem evT_congr {v v':Bool} {k:Bool → Prop} {mk:Prop} (_:Mark = mk) (h:v = v'):evT v k = evT v' k:=by rw [h]
theorem evT_iff {v:Bool} {k:Bool → Prop}:evT v k ↔ k v:=Iff.rfl
def evB (o:Option Blk) (k:Blk → Prop):Prop:=∃ v,o = some v ∧ k v
@[congr] theorem evB_congr {o o':Option Blk} {k:Blk → Prop} {mk:Prop} (_:Mark = mk) (h:o = o'):evB o k = evB o' k:=by rw [h]
theorem evB_some {v:Blk} {k:Blk → Prop}:evB (some v) k ↔ k v:=by simp [evB]
def ifK (c:Prop) (p:Prop):Prop:=c ∧ p
@[congr] theorem ifK_congr {c c' p:Prop} {mk:Prop} (_:Mark = mk) (h:c = c'):ifK c p = ifK c' p:=by rw [h]
theorem ifK_true {p:Prop}:ifK True p ↔ p:=by simp [ifK]
theorem ifK_and {c c' p:Prop}:ifK (c ∧ c') p ↔ ifK c (ifK c' p):=by simp [ifK,and_assoc]
theorem when_if {x:Bool} {p:Prop}:whenK x p ↔ ifK (x = true) p:=whenK_iff _ _
theorem forceN_ev {n:Nat} {k:Nat → Prop}:forceN n k ↔ evN n k:=by rw [forceN_eq]; exact Iff.rfl
theorem forceB_ev {n:Bool} {k:Bool → Prop}:forceB n k ↔ evT n k:=by rw [forceB_eq]; exact Iff.rfl
@[congr] theorem forceN_congr {n:Nat} {k:Nat → Prop} {mk:Prop} (_:Mark = mk):forceN n k = forceN n k:=rfl
@[congr] theorem forceB_congr {n:Bool} {k:Bool → Prop} {mk:Prop} (_:Mark = mk):forceB n k = forceB n k:=rfl
@[congr] theorem whenK_congr {n:Bool} {k:Prop} {mk:Prop} (_:Mark = mk):whenK n k = whenK n k:=rfl
theorem unB_b {x:Bool} {k:Bool → Prop}:unB (.b x) k ↔ k x:=Iff.rfl
theorem unP_ptr {b o:Nat} {k:Nat → Nat → Prop}:unP (.ptr b o) k ↔ k b o:=Iff.rfl
theorem unI_i {q:IntKind} {z:Int} {k:IntKind → Int → Prop}:unI (.i q z) k ↔ k q z:=Iff.rfl
theorem unN_i {q:IntKind} {z:Int} {k:Nat → Prop}:unN (.i q z) k ↔ ifK (0 ≤ z) (evN z.toNat k):=by
  cases z with
  | ofNat m=>exact ⟨fun h=>⟨Int.natCast_nonneg m,h⟩,fun h=>h.2⟩
  | negSucc m=>exact ⟨fun h=>h.elim,fun h=>absurd h.1 (by omega)⟩
@[congr] theorem unB_congr {x:AV} {k:Bool → Prop} {mk:Prop} (_:Mark = mk):unB x k = unB x k:=rfl
@[congr] theorem unP_congr {x:AV} {k:Nat → Nat → Prop} {mk:Prop} (_:Mark = mk):unP x k = unP x k:=rfl
@[congr] theorem unI_congr {x:AV} {k:IntKind → Int → Prop} {mk:Prop} (_:Mark = mk):unI x k = unI x k:=rfl
@[congr] theorem unN_congr {x:AV} {k:Nat → Prop} {mk:Prop} (_:Mark = mk):unN x k = unN x k:=rfl

section
variable {q q':IntKind} {n m:Int} {a c:List UInt8} {k:AV → Prop}
theorem forceI_wrap {z:Int}:forceI (wrapF q z) (fun r=>k (.i q r)) ↔ evA (.i q (q.wrap z)) k:=by
  rw [forceI_eq,wrapF_eq]; exact Iff.rfl
theorem bin_lss:binK orc0 .lss (.i q n) (.i q m) k ↔ evA (.b (decide (n < m))) k:=by simp [binK,intBinK,whenK_iff,ltI_eq,evA]
theorem bin_gtr:binK orc0 .gtr (.i q n) (.i q m) k ↔ evA (.b (decide (m < n))) k:=by simp [binK,intBinK,whenK_iff,ltI_eq,evA]
theorem bin_geq:binK orc0 .geq (.i q n) (.i q m) k ↔ evA (.b (decide (m ≤ n))) k:=by
  simp only [binK,intBinK,whenK_iff,ltI_eq,forceB_eq,decide_true,true_and,evA]
  rw [← decide_not]; simp
theorem bin_leq:binK orc0 .leq (.i q n) (.i q m) k ↔ evA (.b (decide (n ≤ m))) k:=by
  simp only [binK,intBinK,whenK_iff,ltI_eq,forceB_eq,decide_true,true_and,evA]
  rw [← decide_not]; simp
theorem bin_eql:binK orc0 .eql (.i q n) (.i q m) k ↔ evA (.b (decide (n = m))) k:=by
  simp only [binK,intBinK,whenK_iff,eqI_eq,forceB_eq,decide_true,true_and,evA]
  rw [show (n == m) = decide (n = m) from by rw [Bool.eq_iff_iff]; simp]
theorem bin_neq:binK orc0 .neq (.i q n) (.i q m) k ↔ evA (.b (!decide (n = m))) k:=by
  simp only [binK,intBinK,whenK_iff,eqI_eq,forceB_eq,decide_true,true_and,evA]
  rw [show (n == m) = decide (n = m) from by rw [Bool.eq_iff_iff]; simp]
theorem bin_add:binK orc0 .add (.i q n) (.i q m) k ↔ evA (.i q (q.wrap (n + m))) k:=by
  simp only [binK,intBinK,whenK_iff,wrapF_eq,forceI_eq,decide_true,true_and]; exact Iff.rfl
theorem bin_sub:binK orc0 .sub (.i q n) (.i q m) k ↔ evA (.i q (q.wrap (n - m))) k:=by
  simp only [binK,intBinK,whenK_iff,wrapF_eq,forceI_eq,decide_true,true_and]; exact Iff.rfl
theorem bin_mul:binK orc0 .mul (.i q n) (.i q m) k ↔ evA (.i q (q.wrap (n * m))) k:=by
  simp only [binK,intBinK,whenK_iff,wrapF_eq,forceI_eq,decide_true,true_and]; exact Iff.rfl
def orI (q:IntKind) (x y:Int):Int:=q.wrap (BitVec.ofInt q.bits x ||| BitVec.ofInt q.bits y).toNat
def andI (q:IntKind) (x y:Int):Int:=q.wrap (BitVec.ofInt q.bits x &&& BitVec.ofInt q.bits y).toNat
def xorI (q:IntKind) (x y:Int):Int:=q.wrap (BitVec.ofInt q.bits x ^^^ BitVec.ofInt q.bits y).toNat
def clrI (q:IntKind) (x y:Int):Int:=q.wrap (BitVec.ofInt q.bits x &&& ~~~ (BitVec.ofInt q.bits y)).toNat
theorem bin_or:binK orc0 .or (.i q n) (.i q m) k ↔ evA (.i q (orI q n m)) k:=by
  simp only [binK,intBinK,whenK_iff,forceI_eq,decide_true,true_and,orI,evA]
theorem bin_and:binK orc0 .and (.i q n) (.i q m) k ↔ evA (.i q (andI q n m)) k:=by
  simp only [binK,intBinK,whenK_iff,forceI_eq,decide_true,true_and,andI,evA]
theorem bin_xor:binK orc0 .xor (.i q n) (.i q m) k ↔ evA (.i q (xorI q n m)) k:=by
  simp only [binK,intBinK,whenK_iff,forceI_eq,decide_true,true_and,xorI,evA]
theorem bin_clr:binK orc0 .andNot (.i q n) (.i q m) k ↔ evA (.i q (clrI q n m)) k:=by
  simp only [binK,intBinK,whenK_iff,forceI_eq,decide_true,true_and,clrI,evA]
def shrI (q:IntKind) (x m:Int):Int:=x.fdiv (2 ^ min m.toNat q.bits)
def shlI (q:IntKind) (x m:Int):Int:=q.wrap (x * 2 ^ min m.toNat q.bits)
theorem bin_shr {q2:IntKind}:binK orc0 .shr (.i q n) (.i q2 m) k ↔ ifK (0 ≤ m) (evA (.i q (shrI q n m)) k):=by
  cases m with
  | ofNat m =>
    show forceN (min m q.bits) (fun a=>forceI (n.fdiv (p2 a)) (fun r=>k (.i q r))) ↔ _
    rw [forceN_eq,forceI_eq,p2_eq]
    exact ⟨fun h=>⟨Int.natCast_nonneg m,h⟩,fun h=>h.2⟩
  | negSucc m=>exact ⟨fun h=>h.elim,fun h=>absurd h.1 (by omega)⟩
theorem bin_shl {q2:IntKind}:binK orc0 .shl (.i q n) (.i q2 m) k ↔ ifK (0 ≤ m) (evA (.i q (shlI q n m)) k):=by
  cases m with
  | ofNat m =>
    show forceN (min m q.bits) (fun a=>forceI (q.wrap (n * p2 a)) (fun r=>k (.i q r))) ↔ _
    rw [forceN_eq,forceI_eq,p2_eq]
    exact ⟨fun h=>⟨Int.natCast_nonneg m,h⟩,fun h=>h.2⟩
  | negSucc m=>exact ⟨fun h=>h.elim,fun h=>absurd h.1 (by omega)⟩
theorem eqI_ev (x y:Int):eqI x y = decide (x = y):=by rw [eqI_eq,Bool.eq_iff_iff]; simp
theorem bin_seql:binK orc0 .eql (.s a) (.s c) k ↔ evA (.b (decide (a = c))) k:=by
  simp only [binK,strBinK,eqS_eq,forceB_eq,evA]
  rw [show (a == c) = decide (a = c) from by rw [Bool.eq_iff_iff]; simp]
theorem bin_sneq:binK orc0 .neq (.s a) (.s c) k ↔ evA (.b (!decide (a = c))) k:=by
  simp only [binK,strBinK,eqS_eq,forceB_eq,evA]
  rw [show (a == c) = decide (a = c) from by rw [Bool.eq_iff_iff]; simp]
theorem bin_sadd:binK orc0 .add (.s a) (.s c) k ↔ ifK (a.length + c.length ≤ 9223372036854775807) (evA (.s (a ++ c)) k):=by
  show (Bool.rec (motive:=fun _=>Prop) False (k (.s (a ++ c))) (Nat.ble (a.length + c.length) 9223372036854775807):Prop) ↔ _
  rw [show (a.length + c.length ≤ 9223372036854775807) = (Nat.ble (a.length + c.length) 9223372036854775807 = true) from propext ⟨Nat.ble_eq_true_of_le,Nat.le_of_ble_eq_true⟩]
  cases Nat.ble (a.length + c.length) 9223372036854775807
  · exact ⟨False.elim,fun h=>by cases h.1⟩
  · exact ⟨fun h=>⟨rfl,h⟩,fun h=>h.2⟩
theorem bin_slss:binK orc0 .lss (.s a) (.s c) k ↔ evA (.b (ltS a c)) k:=by simp only [binK,strBinK,forceB_eq,evA]
theorem bin_sgeq:binK orc0 .geq (.s a) (.s c) k ↔ evA (.b (!ltS a c)) k:=by simp only [binK,strBinK,forceB_eq,evA]
theorem bin_sleq:binK orc0 .leq (.s a) (.s c) k ↔ evA (.b (ltS a c || decide (a = c))) k:=by
  simp only [binK,strBinK,eqS_eq,forceB_eq,evA]
  rw [show (a == c) = decide (a = c) from by rw [Bool.eq_iff_iff]; simp]
theorem bin_sgtr:binK orc0 .gtr (.s a) (.s c) k ↔ evA (.b (!(ltS a c || decide (a = c)))) k:=by
  simp only [binK,strBinK,eqS_eq,forceB_eq,evA]
  rw [show (a == c) = decide (a = c) from by rw [Bool.eq_iff_iff]; simp]
theorem un_not {x:Bool}:unopK .not (.b x) k ↔ evA (.b (!x)) k:=by simp only [unopK,forceB_eq,evA]
theorem un_neg:unopK .neg (.i q n) k ↔ evA (.i q (q.wrap (0 - n))) k:=by simp only [unopK,forceI_eq,evA]
theorem wrap64 {x:Int} (h1:-9223372036854775808 ≤ x) (h2:x ≤ 9223372036854775807):IntKind.wrap .i64 x = x:=by
  simp [IntKind.wrap,IntKind.bits,IntKind.signed]
  omega
theorem wrapu64 {x:Int} (h1:0 ≤ x) (h2:x ≤ 18446744073709551615):IntKind.wrap .u64 x = x:=by
  simp [IntKind.wrap,IntKind.bits,IntKind.signed]
  omega
theorem wrapu32 {x:Int} (h1:0 ≤ x) (h2:x ≤ 4294967295):IntKind.wrap .u32 x = x:=by
  simp [IntKind.wrap,IntKind.bits,IntKind.signed]
  omega
theorem wrapu8 {x:Int} (h1:0 ≤ x) (h2:x ≤ 255):IntKind.wrap .u8 x = x:=by
  simp [IntKind.wrap,IntKind.bits,IntKind.signed]
  omega
theorem cv_i:cvK orc0 q (.i q' n) k ↔ evA (.i q (q.wrap n)) k:=by
  show forceI (wrapF q n) (fun r=>k (.i q r)) ↔ _
  exact forceI_wrap
end

theorem new_mk {s f:Nat} {tr:Tr Blk} {x:Blk} {k:Nat → Hp → Prop}:newK ⟨s,f,tr⟩ x k ↔ evN (s + 1) (fun s'=>k s ⟨s',f,tr.set s x⟩):=by
  rw [newK_iff]; exact Iff.rfl
theorem put_mk {s f b:Nat} {tr:Tr Blk} {x:Blk} {k:Hp → Prop}:putK ⟨s,f,tr⟩ b x k ↔ ifK (f ≤ b) (k ⟨s,f,tr.set b x⟩):=putK_iff _ _ _ _
theorem up_mk {s f:Nat} {tr:Tr Blk}:Hp.up ⟨s,f,tr⟩ = ⟨s,s,tr⟩:=rfl
theorem down_mk {s f f':Nat} {tr:Tr Blk}:Hp.down ⟨s,f,tr⟩ f' = ⟨s,f',tr⟩:=rfl
def cellAt (x:Blk) (k:Nat → Bool → Bool → List AV → Prop):Prop:=match x with | .cells e w a cs=>k e w a cs | _=>False
@[congr] theorem cellAt_congr {x x':Blk} {k:Nat → Bool → Bool → List AV → Prop} {mk:Prop} (_:Mark = mk) (h:x = x'):cellAt x k = cellAt x' k:=by rw [h]
theorem cellAt_cells {e:Nat} {w a:Bool} {cs:List AV} {k:Nat → Bool → Bool → List AV → Prop}:cellAt (.cells e w a cs) k ↔ k e w a cs:=Iff.rfl
theorem cells_o {b:Nat} {k:Nat → Bool → Bool → List AV → Prop}:cellsK h b k ↔ evB (h.tr.get b) (fun x=>cellAt x k):=by
  rw [cellsK_iff]
  constructor
  · rintro ⟨e,w,a,cs,h1,h2⟩
    exact ⟨_,h1,h2⟩
  · rintro ⟨x,h1,h2⟩
    cases x with
    | cells e w a cs=>exact ⟨e,w,a,cs,h1,h2⟩
    | dead=>exact h2.elim
    | map es=>exact h2.elim
def cutK (cs:List AV) (o n:Nat) (k:List AV → Prop):Prop:=o ≤ cs.length ∧ n ≤ (cs.drop o).length ∧ k ((cs.drop o).take n)
@[congr] theorem cutK_congr {cs:List AV} {o n:Nat} {k:List AV → Prop} {mk:Prop} (_:Mark = mk):cutK cs o n k = cutK cs o n k:=rfl
theorem cut_iff {cs:List AV} {o n:Nat} {k:List AV → Prop}:cutK cs o n k ↔ ifK (o + n ≤ cs.length) (evL ((cs.drop o).take n) k):=by
  unfold cutK ifK
  rw [List.length_drop]
  exact ⟨fun ⟨h1,h2,h3⟩=>⟨by omega,h3⟩,fun ⟨h1,h2⟩=>⟨by omega,by omega,h2⟩⟩
theorem drop_take {cs:List AV} {o n:Nat} {k:List AV → Prop}:dropK o cs (fun l=>takeK n l k) ↔ cutK cs o n k:=by
  rw [dropK_iff,takeK_iff]; exact Iff.rfl
theorem ld_ptr {b o:Nat} {k:AV → Prop}:ldV h (.ptr b o) k ↔ evB (h.tr.get b) (fun x=>cellAt x (fun _ _ _ cs=>evO cs[o]? k)):=by
  show cellsK h b (fun _ _ _ cs=>nthK cs o k) ↔ _
  rw [cells_o]
  have:(fun (_:Nat) (_ _:Bool) (cs:List AV)=>nthK cs o k) = fun _ _ _ cs=>evO cs[o]? k:=by
    funext _ _ _ cs; exact propext (nthK_iff _ _ _)
  rw [this]
theorem ld_pf {cs:List AV} {o:Nat} {k:AV → Prop}:ldV h (.pf cs o) k ↔ evO cs[o]? k:=nthK_iff _ _ _
theorem ldK_o {b o:Nat} {k:AV → Prop}:ldK h b o k ↔ evB (h.tr.get b) (fun x=>cellAt x (fun _ _ _ cs=>evO cs[o]? k)):=ld_ptr
theorem ldsK_o {b o n:Nat} {k:List AV → Prop}:ldsK h b o n k ↔ evB (h.tr.get b) (fun x=>cellAt x (fun _ _ _ cs=>cutK cs o n k)):=by
  show cellsK h b (fun _ _ _ cs=>dropK o cs (fun l=>takeK n l k)) ↔ _
  rw [cells_o]
  simp only [drop_take]
theorem lds_ptr {b o n:Nat} {k:List AV → Prop}:ldsV h (.ptr b o) n k ↔ evB (h.tr.get b) (fun x=>cellAt x (fun _ _ _ cs=>cutK cs o n k)):=ldsK_o
theorem lds_pf {cs:List AV} {o n:Nat} {k:List AV → Prop}:ldsV h (.pf cs o) n k ↔ cutK cs o n k:=drop_take
theorem mov_ptr {b o n:Nat} {k:AV → Prop}:movK (.ptr b o) n k ↔ evN (o + n) (fun o'=>k (.ptr b o')):=forceN_ev (n:=o + n) (k:=fun o'=>k (.ptr b o'))
theorem mov_pf {cs:List AV} {o n:Nat} {k:AV → Prop}:movK (.pf cs o) n k ↔ evN (o + n) (fun o'=>k (.pf cs o')):=forceN_ev (n:=o + n) (k:=fun o'=>k (.pf cs o'))
@[congr] theorem movK_congr {p:AV} {n:Nat} {k:AV → Prop} {mk:Prop} (_:Mark = mk):movK p n k = movK p n k:=rfl
theorem st_o {b o:Nat} {vs:List AV} {k:Hp → Prop}:stK h b o vs k ↔ evB (h.tr.get b) (fun x=>cellAt x (fun e w a cs=>ifK (w = true ∧ cellsOk vs = true ∧ o + vs.length ≤ cs.length) (evL (cs.take o ++ (vs ++ cs.drop (o + vs.length))) (fun cs'=>putK h b (.cells e true a cs') k)))):=by
  show cellsK h b _ ↔ _
  rw [cells_o]
  have:(fun (e:Nat) (w a:Bool) (cs:List AV)=>(Bool.rec (motive:=fun _=>Prop) False (Bool.rec (motive:=fun _=>Prop) False (spliceK vs o cs (fun cs'=>putK h b (.cells e w a cs') k)) (cellsOk vs)) w:Prop)) =
      fun e w a cs=>ifK (w = true ∧ cellsOk vs = true ∧ o + vs.length ≤ cs.length) (evL (cs.take o ++ (vs ++ cs.drop (o + vs.length))) (fun cs'=>putK h b (.cells e true a cs') k)):=by
    funext e w a cs
    refine propext ?_
    cases w with
    | false=>exact ⟨False.elim,fun hh=>by have:=hh.1.1; cases this⟩
    | true =>
      cases hc:cellsOk vs with
      | false=>exact ⟨False.elim,fun hh=>by have:=hh.1.2.1; cases this⟩
      | true=>exact (spliceK_iff _ _ _ _).trans ⟨fun ⟨h1,h2⟩=>⟨⟨rfl,rfl,h1⟩,h2⟩,fun ⟨⟨_,_,h1⟩,h2⟩=>⟨h1,h2⟩⟩
  rw [this]
def stV (h:Hp) (b o:Nat) (v:AV) (n:Nat) (k:Hp → Prop):Prop:=whenK (defd v) (lenK (cellsOf v) (fun m=>whenK (Nat.beq m n) (stK h b o (cellsOf v) k)))
@[congr] theorem stV_congr {b o:Nat} {v:AV} {n:Nat} {k:Hp → Prop} {mk:Prop} (_:Mark = mk):stV h b o v n k = stV h b o v n k:=rfl
theorem beq_iff {x y:Nat}:Nat.beq x y = true ↔ x = y:=⟨Nat.eq_of_beq_eq_true,fun h=>h ▸ Nat.beq_refl x⟩
theorem stV_iff {b o:Nat} {v:AV} {n:Nat} {k:Hp → Prop}:stV h b o v n k ↔ ifK (defd v = true) (evL (cellsOf v) (fun cs=>ifK (cs.length = n) (stK h b o cs k))):=by
  unfold stV
  rw [whenK_iff,lenK_iff,whenK_iff,beq_iff]; exact Iff.rfl
theorem ble_iff {x y:Nat}:Nat.ble x y = true ↔ x ≤ y:=⟨Nat.le_of_ble_eq_true,Nat.ble_eq_true_of_le⟩

theorem op_mov {x:O}:opK orc0 (.mov x) t h k ↔ evK t x (fun v=>k v h):=Iff.rfl
theorem rec_if {b:Bool} {p q:Prop}:(Bool.rec (motive:=fun _=>Prop) q p b:Prop) ↔ if b = true then p else q:=by cases b <;> simp
theorem op_pick {c x y:O}:opK orc0 (.pick c x y) t h k ↔ evK t c (fun c=>unB c (fun c=>if c = true then evK t x (fun v=>k v h) else evK t y (fun v=>k v h))):=by
  show evK t c (fun c=>unB c (fun c=>Bool.rec (motive:=fun _=>Prop) (evK t y (fun v=>k v h)) (evK t x (fun v=>k v h)) c)) ↔ _
  simp only [rec_if]
theorem op_alloc {z:List AV}:opK orc0 (.alloc z) t h k ↔ newK h (.cells 0 true false z) (fun b h'=>k (.ptr b 0) h'):=Iff.rfl
theorem op_box {x:O}:opK orc0 (.box x) t h k ↔ evK t x (fun v=>whenK (defd v) (evL (cellsOf v) (fun cs=>newK h (.cells 0 true false cs) (fun b h'=>k (.ptr b 0) h')))):=Iff.rfl
theorem op_build {z:List AV} {ps:List (Nat × Nat × O)}:opK orc0 (.build z ps) t h k ↔ fillK t ps z (fun cs=>k (.agg cs) h):=Iff.rfl
theorem op_buildS {n:Nat} {z:List AV} {ps:List (Nat × Nat × O)}:opK orc0 (.buildS n z ps) t h k ↔ evL (List.replicate n z).flatten (fun cs=>fillK t ps cs (fun cs=>newK h (.cells 0 true false cs) (fun b h'=>k (.sl b 0 n n false) h'))):=by
  show repK z n _ ↔ _
  rw [repK_iff]; exact Iff.rfl
theorem op_load1 {x:O}:opK orc0 (.load1 x) t h k ↔ evK t x (fun p=>ldV h p (fun v=>k v h)):=Iff.rfl
theorem op_loadN {n:Nat} {x:O}:opK orc0 (.loadN n x) t h k ↔ evK t x (fun p=>ldsV h p n (fun cs=>k (.agg cs) h)):=Iff.rfl
theorem op_store {n:Nat} {x v:O}:opK orc0 (.store n x v) t h k ↔ evK t x (fun p=>unP p (fun b o=>evK t v (fun v=>stV h b o v n (fun h'=>k .undef h')))):=Iff.rfl
def nilCh (v:AV) (k:AV → Prop):Prop:=match v with | .ptr b o=>k (.ptr b o) | .fn f a c=>k (.fn f a c) | .map r=>k (.map r) | .pf cs o=>k (.pf cs o) | _=>False
@[congr] theorem nilCh_congr {v:AV} {k:AV → Prop} {mk:Prop} (_:Mark = mk):nilCh v k = nilCh v k:=rfl
theorem op_nilChk {x:O}:opK orc0 (.nilChk x) t h k ↔ evK t x (fun v=>nilCh v (fun v=>k v h)):=by
  show evK t x (fun v=>_) ↔ _
  refine iff_of_eq (congrArg _ (funext fun v=>?_))
  cases v <;> rfl
theorem op_bin {op:BinOp} {x y:O}:opK orc0 (.bin op x y) t h k ↔ evK t x (fun x=>evK t y (fun y=>binK orc0 op x y (fun v=>k v h))):=Iff.rfl
theorem op_eqB {neg:Bool} {x y:O}:opK orc0 (.eqB neg x y) t h k ↔ evK t x (fun x=>evK t y (fun y=>unB x (fun x=>unB y (fun y=>evT (xor neg (x == y)) (fun r=>k (.b r) h))))):=by
  show evK t x (fun x=>evK t y (fun y=>unB x (fun x=>unB y (fun y=>forceB _ _)))) ↔ _
  simp only [forceB_ev]
theorem op_eqN {neg:Bool} {q:NK} {x:O}:opK orc0 (.eqN neg q x) t h k ↔ evK t x (fun x=>isNilK q x (fun r=>evT (xor neg r) (fun r=>k (.b r) h))):=by
  show evK t x (fun x=>isNilK q x (fun r=>forceB _ _)) ↔ _
  simp only [forceB_ev]
theorem op_eqA {neg:Bool} {ks:List PK} {x y:O}:opK orc0 (.eqA neg ks x y) t h k ↔ evK t x (fun x=>evK t y (fun y=>match x with | .agg a=>(match y with | .agg c=>cellsEqK ks a c (fun r=>forceB (xor neg r) (fun r=>k (.b r) h)) | _=>False) | _=>False)):=Iff.rfl
theorem op_un {op:UnOp} {x:O}:opK orc0 (.un op x) t h k ↔ evK t x (fun x=>unopK op x (fun v=>k v h)):=Iff.rfl
theorem op_cvInt {q:IntKind} {x:O}:opK orc0 (.cvInt q x) t h k ↔ evK t x (fun x=>cvK orc0 q x (fun v=>k v h)):=Iff.rfl
@[congr] theorem cvK_congr {q:IntKind} {x:AV} {k:AV → Prop} {mk:Prop} (_:Mark = mk):cvK orc0 q x k = cvK orc0 q x k:=rfl
theorem op_cvStr {x:O}:opK orc0 (.cvStr x) t h k ↔ evK t x (fun x=>match x with | .s a=>k (.s a) h | _=>False):=Iff.rfl
theorem op_s2b {x:O}:opK orc0 (.s2b x) t h k ↔ evK t x (fun x=>match x with | .s a=>newK h (.cells 1 true true (a.map fun c=>.i .u8 (Int.ofNat c.toNat))) (fun b h'=>k (.own b a.length) h') | _=>False):=by
  show evK t x (fun x=>_) ↔ _
  refine iff_of_eq (congrArg _ (funext fun v=>?_))
  cases v <;> first | rfl | exact forceN_eq _ _
theorem op_b2s {x:O}:opK orc0 (.b2s x) t h k ↔ evK t x (fun x=>match x with
    | .nils=>k (.s []) h
    | .sl b o n _ _=>ldsK h b o n (fun cs=>toBytesK cs (fun l=>k (.s l) h))
    | .fz n cs=>cutK cs 0 n (fun cs=>toBytesK cs (fun l=>k (.s l) h))
    | .e0=>k (.s []) h
    | .own b n=>ldsK h b 0 n (fun cs=>toBytesK cs (fun l=>k (.s l) h))
    | _=>False):=by
  show evK t x (fun x=>_) ↔ _
  refine iff_of_eq (congrArg _ (funext fun v=>?_))
  cases v <;> first | rfl | exact propext ((takeK_iff _ _ _).trans ⟨fun hh=>⟨Nat.zero_le _,by simpa using hh⟩,fun hh=>by simpa using hh.2⟩)
theorem op_fAddr {off:Nat} {x:O}:opK orc0 (.fAddr off x) t h k ↔ evK t x (fun p=>movK p off (fun v=>k v h)):=Iff.rfl
def fldK (off:Nat) (n:Option Nat) (x:AV) (k:AV → Prop):Prop:=match x with
  | .agg cs=>(match n with | none=>evO cs[off]? k | some n=>cutK cs off n (fun l=>k (.agg l)))
  | _=>False
@[congr] theorem fldK_congr {off:Nat} {n:Option Nat} {x:AV} {k:AV → Prop} {mk:Prop} (_:Mark = mk):fldK off n x k = fldK off n x k:=rfl
theorem fld_none {off:Nat} {cs:List AV} {k:AV → Prop}:fldK off none (.agg cs) k ↔ evO cs[off]? k:=Iff.rfl
theorem fld_some {off n:Nat} {cs:List AV} {k:AV → Prop}:fldK off (some n) (.agg cs) k ↔ cutK cs off n (fun l=>k (.agg l)):=Iff.rfl
theorem op_fld {off:Nat} {n:Option Nat} {x:O}:opK orc0 (.fld off n x) t h k ↔ evK t x (fun x=>fldK off n x (fun v=>k v h)):=by
  show evK t x (fun x=>_) ↔ _
  refine iff_of_eq (congrArg _ (funext fun v=>?_))
  cases v <;> first | rfl | skip
  cases n with
  | none=>exact propext (nthK_iff _ _ _)
  | some n=>exact propext drop_take
theorem op_iAddrA {len esz:Nat} {x i:O}:opK orc0 (.iAddrA len esz x i) t h k ↔ evK t x (fun p=>evK t i (fun i=>unN i (fun i=>ifK (i < len) (evN (i * esz) (fun o=>movK p o (fun v=>k v h)))))):=by
  show evK t x (fun p=>evK t i (fun i=>unN i (fun i=>whenK (Nat.ble (Nat.succ i) len) _))) ↔ _
  simp only [whenK_iff,ble_iff]; exact Iff.rfl
def ixK (esz:Nat) (x:AV) (i:Nat) (k:AV → Prop):Prop:=match x with
  | .sl b o len _ _=>ifK (i < len) (evN (o + i * esz) (fun o'=>k (.ptr b o')))
  | .fz len cs=>ifK (i < len) (evN (i * esz) (fun o'=>k (.pf cs o')))
  | .own b len=>ifK (i < len) (evN (i * esz) (fun o'=>k (.ptr b o')))
  | _=>False
@[congr] theorem ixK_congr {esz i:Nat} {x:AV} {k:AV → Prop} {mk:Prop} (_:Mark = mk):ixK esz x i k = ixK esz x i k:=rfl
theorem ix_sl {esz i b o len cap:Nat} {l:Bool} {k:AV → Prop}:ixK esz (.sl b o len cap l) i k ↔ ifK (i < len) (evN (o + i * esz) (fun o'=>k (.ptr b o'))):=Iff.rfl
theorem ix_fz {esz i len:Nat} {cs:List AV} {k:AV → Prop}:ixK esz (.fz len cs) i k ↔ ifK (i < len) (evN (i * esz) (fun o'=>k (.pf cs o'))):=Iff.rfl
theorem ix_own {esz i b len:Nat} {k:AV → Prop}:ixK esz (.own b len) i k ↔ ifK (i < len) (evN (i * esz) (fun o'=>k (.ptr b o'))):=Iff.rfl
def isRow (x:AV) (p:Prop):Prop:=match x with | .sl _ _ _ _ _=>p | .fz _ _=>p | .own _ _=>p | _=>False
@[congr] theorem isRow_congr {x:AV} {p:Prop} {mk:Prop} (_:Mark = mk):isRow x p = isRow x p:=rfl
theorem isRow_sl {b o len cap:Nat} {l:Bool} {p:Prop}:isRow (.sl b o len cap l) p ↔ p:=Iff.rfl
theorem isRow_fz {len:Nat} {cs:List AV} {p:Prop}:isRow (.fz len cs) p ↔ p:=Iff.rfl
theorem isRow_own {b len:Nat} {p:Prop}:isRow (.own b len) p ↔ p:=Iff.rfl
theorem op_iAddrS {esz:Nat} {x i:O}:opK orc0 (.iAddrS esz x i) t h k ↔ evK t x (fun x=>isRow x (evK t i (fun i=>unN i (fun i=>ixK esz x i (fun v=>k v h))))):=by
  show evK t x (fun x=>_) ↔ _
  refine iff_of_eq (congrArg _ (funext fun v=>?_))
  cases v <;> first | rfl | (simp only [whenK_iff,ble_iff,forceN_ev]; rfl)
theorem op_idxA {len esz:Nat} {agg:Bool} {x i:O}:opK orc0 (.idxA len esz agg x i) t h k ↔ evK t x (fun x=>match x with
    | .agg cs=>evK t i (fun i=>unN i (fun i=>ifK (i < len) (evN (i * esz) (fun o=>if agg = true then cutK cs o esz (fun l=>k (.agg l) h) else evO cs[o]? (fun v=>k v h)))))
    | _=>False):=by
  show evK t x (fun x=>_) ↔ _
  refine iff_of_eq (congrArg _ (funext fun v=>?_))
  cases v <;> first | rfl | skip
  simp only [whenK_iff,ble_iff,forceN_ev,rec_if,drop_take]
  have:∀ (cs:List AV) (o:Nat),nthK cs o (fun v=>k v h) = evO cs[o]? (fun v=>k v h):=fun cs o=>propext (nthK_iff _ _ _)
  simp only [this]; rfl
def evC (o:Option UInt8) (k:UInt8 → Prop):Prop:=∃ v,o = some v ∧ k v
@[congr] theorem evC_congr {o o':Option UInt8} {k:UInt8 → Prop} {mk:Prop} (_:Mark = mk) (h:o = o'):evC o k = evC o' k:=by rw [h]
theorem evC_some {v:UInt8} {k:UInt8 → Prop}:evC (some v) k ↔ k v:=by simp [evC]
theorem op_idxS {x i:O}:opK orc0 (.idxS x i) t h k ↔ evK t x (fun x=>match x with
    | .s a=>evK t i (fun i=>unN i (fun i=>evC a[i]? (fun c=>k (.i .u8 (c.toNat:Int)) h)))
    | _=>False):=by
  show evK t x (fun x=>_) ↔ _
  refine iff_of_eq (congrArg _ (funext fun v=>?_))
  cases v <;> first | rfl | skip
  rename_i a
  have e:∀ (j:Nat),(Option.rec (motive:=fun _=>Prop) False (fun c=>k (.i .u8 (Int.ofNat c.toNat)) h) (a[j]?):Prop) = evC a[j]? (fun c=>k (.i .u8 (c.toNat:Int)) h):=by
    intro j
    cases ha:a[j]? with
    | none=>exact propext ⟨False.elim,fun ⟨_,h1,_⟩=>by cases h1⟩
    | some c=>exact (propext (evC_some (k:=fun c=>k (.i .u8 (c.toNat:Int)) h) (v:=c))).symm
  simp only [e]
def bdK (x:Option AV) (dflt top:Nat) (k:Nat → Prop):Prop:=bndK x dflt top k
@[congr] theorem bdK_congr {x:Option AV} {a b:Nat} {k:Nat → Prop} {mk:Prop} (_:Mark = mk):bdK x a b k = bdK x a b k:=rfl
theorem bd_none {a b:Nat} {k:Nat → Prop}:bdK none a b k ↔ k a:=Iff.rfl
theorem bd_some {v:AV} {a b:Nat} {k:Nat → Prop}:bdK (some v) a b k ↔ unN v (fun n=>ifK (n ≤ b) (k n)):=by
  show unN v (fun n=>whenK (Nat.ble n b) (forceN n k)) ↔ _
  simp only [whenK_iff,ble_iff,forceN_eq]; exact Iff.rfl
theorem bnds_lo {len cap:Nat} {lo:Option AV} {k:Nat → Nat → Nat → Prop}:bndsK len cap lo none none k ↔ ifK (len ≤ cap) (bdK lo 0 len (fun l=>k l len cap)):=by
  show whenK (Nat.ble len cap) (bndK lo 0 len (fun l=>k l len cap)) ↔ _
  rw [whenK_iff,ble_iff]; exact Iff.rfl
theorem bnds_hi {len cap:Nat} {lo:Option AV} {hi:AV} {k:Nat → Nat → Nat → Prop}:bndsK len cap lo (some hi) none k ↔ unN hi (fun u=>ifK (u ≤ cap) (bdK lo 0 u (fun l=>k l u cap))):=by
  show unN hi (fun u=>whenK (Nat.ble u cap) (forceN u (fun u=>bndK lo 0 u (fun l=>k l u cap)))) ↔ _
  simp only [whenK_iff,ble_iff,forceN_eq]; exact Iff.rfl
theorem bnds_mx {len cap:Nat} {lo:Option AV} {hi mx:AV} {k:Nat → Nat → Nat → Prop}:bndsK len cap lo (some hi) (some mx) k ↔ unN mx (fun m=>ifK (m ≤ cap) (unN hi (fun u=>ifK (u ≤ m) (bdK lo 0 u (fun l=>k l u m))))):=by
  show unN mx (fun m=>whenK (Nat.ble m cap) (forceN m (fun m=>unN hi (fun u=>whenK (Nat.ble u m) (forceN u (fun u=>bndK lo 0 u (fun l=>k l u m))))))) ↔ _
  simp only [whenK_iff,ble_iff,forceN_eq]; exact Iff.rfl
def slK (esz:Nat) (lo hi mx:Option AV) (x:AV) (h:Hp) (k:AV → Prop):Prop:=match x with
  | .nils=>bndsK 0 0 lo hi mx (fun _ _ _=>k .nils)
  | .e0=>bndsK 0 0 lo hi mx (fun _ _ _=>k .e0)
  | .fz n cs=>bndsK n n lo hi mx (fun l h' m=>if (mx.isSome && Nat.beq m l) = true then k .e0 else evN (l * esz) (fun o=>evN (h' - l) (fun len'=>evN (len' * esz) (fun z=>cutK cs o z (fun l2=>k (.fz len' l2))))))
  | .sl b o len cap loose=>bndsK len cap lo hi mx (fun l h' m=>evN (if (loose && mx.isNone) = false ∧ m = l then o else o + l * esz) (fun o'=>evN (h' - l) (fun len'=>evN (m - l) (fun cap'=>eszK h b esz (loose && mx.isNone) (k (.sl b o' len' cap' (loose && mx.isNone)))))))
  | .own b n=>ifK (mx = none) (if n = 0 then bndsK 0 0 lo hi none (fun _ _ _=>k (.own b 0)) else bndsK n n lo hi none (fun l h' m=>evN (l * esz) (fun o'=>evN (h' - l) (fun len'=>evN (m - l) (fun cap'=>eszK h b esz true (k (.sl b o' len' cap' true)))))))
  | _=>False
@[congr] theorem slK_congr {esz:Nat} {lo hi mx:Option AV} {x:AV} {k:AV → Prop} {mk:Prop} (_:Mark = mk):slK esz lo hi mx x h k = slK esz lo hi mx x h k:=rfl
@[congr] theorem eszK_congr {b esz:Nat} {c:Bool} {p:Prop} {mk:Prop} (_:Mark = mk):eszK h b esz c p = eszK h b esz c p:=rfl
theorem esz_false {b esz:Nat} {p:Prop}:eszK h b esz false p ↔ p:=Iff.rfl
theorem esz_true {b esz:Nat} {p:Prop}:eszK h b esz true p ↔ evB (h.tr.get b) (fun x=>cellAt x (fun e _ _ _=>ifK (e = esz) p)):=by
  show cellsK h b (fun e _ _ _=>whenK (Nat.beq e esz) p) ↔ _
  rw [cells_o]
  simp only [whenK_iff,beq_iff]; exact Iff.rfl
theorem sl_nils {esz:Nat} {lo hi mx:Option AV} {k:AV → Prop}:slK esz lo hi mx .nils h k ↔ bndsK 0 0 lo hi mx (fun _ _ _=>k .nils):=Iff.rfl
theorem sl_e0 {esz:Nat} {lo hi mx:Option AV} {k:AV → Prop}:slK esz lo hi mx .e0 h k ↔ bndsK 0 0 lo hi mx (fun _ _ _=>k .e0):=Iff.rfl
theorem sl_fz {esz n:Nat} {cs:List AV} {lo hi:Option AV} {k:AV → Prop}:slK esz lo hi none (.fz n cs) h k ↔ bndsK n n lo hi none (fun l h' _=>evN (l * esz) (fun o=>evN (h' - l) (fun len'=>evN (len' * esz) (fun z=>cutK cs o z (fun l2=>k (.fz len' l2)))))):=by
  simp only [slK,Option.isSome_none,Bool.false_and,Bool.false_eq_true,if_false]
theorem sl_slF {esz b o len cap:Nat} {lo hi mx:Option AV} {k:AV → Prop}:slK esz lo hi mx (.sl b o len cap false) h k ↔ bndsK len cap lo hi mx (fun l1 h' m=>evN (if m = l1 then o else o + l1 * esz) (fun o'=>evN (h' - l1) (fun len'=>evN (m - l1) (fun cap'=>k (.sl b o' len' cap' false))))):=by
  simp only [slK,Bool.false_and,true_and]; exact Iff.rfl
theorem sl_slT {esz b o len cap:Nat} {lo hi:Option AV} {k:AV → Prop}:slK esz lo hi none (.sl b o len cap true) h k ↔ bndsK len cap lo hi none (fun l1 h' m=>evN (o + l1 * esz) (fun o'=>evN (h' - l1) (fun len'=>evN (m - l1) (fun cap'=>eszK h b esz true (k (.sl b o' len' cap' true)))))):=by
  simp only [slK,Option.isNone_none,Bool.and_self,Bool.true_eq_false,false_and,if_false]
theorem sl_own {esz b n:Nat} {lo hi:Option AV} {k:AV → Prop}:slK esz lo hi none (.own b n) h k ↔ if n = 0 then bndsK 0 0 lo hi none (fun _ _ _=>k (.own b 0)) else bndsK n n lo hi none (fun l h' m=>evN (l * esz) (fun o'=>evN (h' - l) (fun len'=>evN (m - l) (fun cap'=>eszK h b esz true (k (.sl b o' len' cap' true)))))):=by
  simp only [slK,ifK,true_and]
theorem op_slcS {esz:Nat} {x:O} {lo hi mx:Option O}:opK orc0 (.slcS esz x lo hi mx) t h k ↔ evK t x (fun x=>optK t lo (fun lo=>optK t hi (fun hi=>optK t mx (fun mx=>slK esz lo hi mx x h (fun v=>k v h))))):=by
  show evK t x (fun x=>_) ↔ _
  refine iff_of_eq (congrArg _ (funext fun v=>congrArg _ (funext fun lo=>congrArg _ (funext fun hi=>congrArg _ (funext fun mx=>?_)))))
  cases v <;> first | rfl | skip
  · simp only [slK,forceN_ev]; rfl
  · have e:∀ (cs:List AV) (o m:Nat),dropK o cs (fun l1=>evN m (fun len'=>takeK (Nat.mul len' esz) l1 (fun l2=>k (.fz len' l2) h))) = evN m (fun len'=>evN (len' * esz) (fun z=>cutK cs o z (fun l2=>k (.fz len' l2) h))):=by
      intro cs o m
      refine propext ⟨fun hh=>?_,fun hh=>?_⟩
      · obtain ⟨h1,h2⟩:=(dropK_iff _ _ _).1 hh
        obtain ⟨h3,h4⟩:=(takeK_iff _ _ _).1 h2
        exact ⟨h1,h3,h4⟩
      · obtain ⟨h1,h3,h4⟩:=hh
        exact (dropK_iff _ _ _).2 ⟨h1,(takeK_iff _ _ _).2 ⟨h3,h4⟩⟩
    simp only [slK,forceN_ev,rec_if,e]; rfl
  · rename_i b n
    cases mx with
    | some m=>exact propext ⟨False.elim,fun hh=>by cases hh.1⟩
    | none =>
      cases n with
      | zero=>simp only [slK,ifK,true_and,if_true]; rfl
      | succ n=>simp only [slK,ifK,true_and,Nat.succ_ne_zero,if_false,forceN_ev]; rfl
theorem op_slcStr {x:O} {lo hi:Option O}:opK orc0 (.slcStr x lo hi) t h k ↔ evK t x (fun x=>optK t lo (fun lo=>optK t hi (fun hi=>match x with
    | .s a=>bndsK a.length a.length lo hi none (fun l h' _=>evA (.s ((a.take h').drop l)) (fun v=>k v h))
    | _=>False))):=Iff.rfl
theorem op_slcA {len esz:Nat} {x:O} {lo hi mx:Option O}:opK orc0 (.slcA len esz x lo hi mx) t h k ↔ evK t x (fun p=>unP p (fun b o=>optK t lo (fun lo=>optK t hi (fun hi=>optK t mx (fun mx =>
      bndsK len len lo hi mx (fun l h' m=>evN (if m = l then o else o + l * esz) (fun o'=>evN (h' - l) (fun len'=>evN (m - l) (fun cap'=>k (.sl b o' len' cap' false) h))))))))):=by
  show evK t x (fun p=>unP p (fun b o=>optK t lo (fun lo=>optK t hi (fun hi=>optK t mx (fun mx=>bndsK len len lo hi mx (fun l h' m=>forceN (if m = l then o else Nat.add o (Nat.mul l esz)) _)))))) ↔ _
  simp only [forceN_ev]; exact Iff.rfl
theorem op_ext {x:O} {i:Nat}:opK orc0 (.ext x i) t h k ↔ evK t x (fun x=>match x with | .tup cs=>evO cs[i]? (fun v=>k v h) | _=>False):=by
  show evK t x (fun x=>_) ↔ _
  refine iff_of_eq (congrArg _ (funext fun v=>?_))
  cases v <;> first | rfl | exact propext (nthK_iff _ _ _)
theorem op_mkF {f:Nat} {a c:List O}:opK orc0 (.mkF f a c) t h k ↔ evsK t a (fun a=>evsK t c (fun c=>k (.fn f a c) h)):=Iff.rfl
theorem op_mkS {e bytes:Nat} {z:List AV} {len cap:O}:opK orc0 (.mkS e bytes z len cap) t h k ↔ evK t len (fun len=>evK t cap (fun cap=>unN len (fun l=>unN cap (fun c=>ifK (l ≤ c) (ifK (c ≤ roomB) (ifK (bytes * c ≤ roomB) (evL (List.replicate c z).flatten (fun cs=>newK h (.cells 0 true false cs) (fun b h'=>k (.sl b 0 l c false) h'))))))))):=by
  show evK t len (fun len=>evK t cap (fun cap=>unN len (fun l=>unN cap (fun c=>whenK (Nat.ble l c) (whenK (Nat.ble c roomB) (whenK (Nat.ble (Nat.mul bytes c) roomB) (repK z c _))))))) ↔ _
  simp only [whenK_iff,ble_iff,repK_iff]; exact Iff.rfl
def lnK (str:Bool) (x:AV) (k:AV → Prop):Prop:=match x,str with
  | .nils,false=>k (.i .i64 0)
  | .e0,false=>k (.i .i64 0)
  | .nz,false=>k (.i .i64 0)
  | .fz n _,false=>evA (.i .i64 (n:Int)) k
  | .own _ n,false=>evA (.i .i64 (n:Int)) k
  | .sl _ _ n _ _,false=>evA (.i .i64 (n:Int)) k
  | .s a,true=>evA (.i .i64 (a.length:Int)) k
  | _,_=>False
@[congr] theorem lnK_congr {b:Bool} {x:AV} {k:AV → Prop} {mk:Prop} (_:Mark = mk):lnK b x k = lnK b x k:=rfl
theorem op_len {str:Bool} {x:O}:opK orc0 (.len str x) t h k ↔ evK t x (fun x=>lnK str x (fun v=>k v h)):=by
  show evK t x (fun x=>_) ↔ _
  refine iff_of_eq (congrArg _ (funext fun v=>?_))
  cases v <;> cases str <;> first | rfl | exact forceN_eq _ _
theorem ln_nils {k:AV → Prop}:lnK false .nils k ↔ k (.i .i64 0):=Iff.rfl
theorem ln_nz {k:AV → Prop}:lnK false .nz k ↔ k (.i .i64 0):=Iff.rfl
theorem ln_e0 {k:AV → Prop}:lnK false .e0 k ↔ k (.i .i64 0):=Iff.rfl
theorem ln_fz {n:Nat} {cs:List AV} {k:AV → Prop}:lnK false (.fz n cs) k ↔ evA (.i .i64 (n:Int)) k:=Iff.rfl
theorem ln_own {b n:Nat} {k:AV → Prop}:lnK false (.own b n) k ↔ evA (.i .i64 (n:Int)) k:=Iff.rfl
theorem ln_sl {b o n c:Nat} {l:Bool} {k:AV → Prop}:lnK false (.sl b o n c l) k ↔ evA (.i .i64 (n:Int)) k:=Iff.rfl
theorem ln_s {a:List UInt8} {k:AV → Prop}:lnK true (.s a) k ↔ evA (.i .i64 (a.length:Int)) k:=Iff.rfl
theorem op_app {esz bytes:Nat} {c:Bool} {s x:O}:opK orc0 (.app esz bytes c s x) t h k ↔ evK t s (fun s=>evK t x (fun x=>appK h esz bytes c s x k)):=Iff.rfl
theorem op_appF {esz bytes:Nat} {s x:O}:opK orc0 (.appF esz bytes s x) t h k ↔ evK t s (fun s=>evK t x (fun x=>appK h esz bytes true s x k)):=Iff.rfl
def apzK (esz bytes:Nat) (z:List AV) (h:Hp) (s:AV) (n:Nat) (k:AV → Hp → Prop):Prop:=match s with
    | .sl b o len cap false=>evN (len + n) (fun need=>ifK (cap < need) (ifK (need ≤ roomB) (ifK (need * bytes ≤ roomB) (evN (len * esz) (fun m=>ldsK h b o m (fun old=>evL (old ++ (List.replicate n z).flatten) (fun cs=>newK h (.cells esz true true cs) (fun b' h'=>k (.own b' need) h'))))))))
    | _=>False
@[congr] theorem apzK_congr {esz bytes n:Nat} {z:List AV} {s:AV} {mk:Prop} (_:Mark = mk):apzK esz bytes z h s n k = apzK esz bytes z h s n k:=rfl
theorem apz_sl {esz bytes b o len cap n:Nat} {z:List AV}:apzK esz bytes z h (.sl b o len cap false) n k ↔ evN (len + n) (fun need=>ifK (cap < need) (ifK (need ≤ roomB) (ifK (need * bytes ≤ roomB) (evN (len * esz) (fun m=>ldsK h b o m (fun old=>evL (old ++ (List.replicate n z).flatten) (fun cs=>newK h (.cells esz true true cs) (fun b' h'=>k (.own b' need) h')))))))):=Iff.rfl
theorem op_appZ {esz bytes:Nat} {z:List AV} {s x:O}:opK orc0 (.appZ esz bytes z s x) t h k ↔ evK t s (fun s=>evK t x (fun x=>unN x (fun n=>apzK esz bytes z h s n k))):=by
  show evK t s (fun s=>evK t x (fun x=>unN x (fun n=>_))) ↔ _
  refine iff_of_eq (congrArg _ (funext fun v=>congrArg _ (funext fun x=>congrArg _ (funext fun n=>propext ?_))))
  cases v <;> first | exact Iff.rfl | skip
  rename_i b o len cap loose
  cases loose with
  | true=>exact ⟨fun hh=>absurd ((whenK_iff (!true) _).1 hh).1 (by simp),False.elim⟩
  | false =>
    simp only [apzK,whenK_iff,ble_iff,repK_iff,catK_iff,Bool.not_false,true_and,evN,ifK,evL]; rfl
theorem op_copy {esz:Nat} {s x:O}:opK orc0 (.copy esz s x) t h k ↔ evK t s (fun s=>evK t x (fun x=>copyK h esz s x k)):=Iff.rfl
theorem copy_nils {esz:Nat} {s:AV}:copyK h esz .nils s k ↔ srcK h esz s (fun _ _=>k (.i .i64 0) h):=Iff.rfl
theorem copy_sl {esz b o len c:Nat} {l:Bool} {s:AV}:copyK h esz (.sl b o len c l) s k ↔ srcK h esz s (fun n new=>evN (min n len) (fun m=>evN (m * esz) (fun z=>cutK new 0 z (fun cs=>stK h b o cs (fun h'=>evA (.i .i64 (m:Int)) (fun v=>k v h')))))):=by
  show srcK h esz s (fun n new=>forceN (min n len) (fun m=>takeK (Nat.mul m esz) new (fun cs=>stK h b o cs (fun h'=>k (.i .i64 (Int.ofNat m)) h')))) ↔ _
  simp only [forceN_ev]
  refine iff_of_eq (congrArg _ (funext fun n=>funext fun new=>congrArg _ (funext fun m=>propext ?_)))
  exact (takeK_iff _ _ _).trans ⟨fun hh=>⟨Nat.zero_le _,by simpa [evA] using hh⟩,fun hh=>by simpa [evN,cutK,evA] using hh⟩
theorem op_min {x y:O}:opK orc0 (.min x y) t h k ↔ evK t x (fun x=>evK t y (fun y=>unI x (fun q n=>unI y (fun _ m=>evA (.i q (if m < n then m else n)) (fun v=>k v h))))):=by
  have e:∀ (q:IntKind) (n m:Int),(Bool.rec (motive:=fun _=>Prop) (k (.i q n) h) (k (.i q m) h) (ltI m n):Prop) = evA (.i q (if m < n then m else n)) (fun v=>k v h):=by
    intro q n m
    rw [ltI_eq]
    by_cases hlt:m < n
    · rw [decide_eq_true hlt,if_pos hlt]; rfl
    · rw [decide_eq_false hlt,if_neg hlt]; rfl
  show evK t x (fun x=>evK t y (fun y=>unI x (fun q n=>unI y (fun _ m=>Bool.rec (motive:=fun _=>Prop) (k (.i q n) h) (k (.i q m) h) (ltI m n))))) ↔ _
  simp only [e]
theorem op_max {x y:O}:opK orc0 (.max x y) t h k ↔ evK t x (fun x=>evK t y (fun y=>unI x (fun q n=>unI y (fun _ m=>evA (.i q (if n < m then m else n)) (fun v=>k v h))))):=by
  have e:∀ (q:IntKind) (n m:Int),(Bool.rec (motive:=fun _=>Prop) (k (.i q n) h) (k (.i q m) h) (ltI n m):Prop) = evA (.i q (if n < m then m else n)) (fun v=>k v h):=by
    intro q n m
    rw [ltI_eq]
    by_cases hlt:n < m
    · rw [decide_eq_true hlt,if_pos hlt]; rfl
    · rw [decide_eq_false hlt,if_neg hlt]; rfl
  show evK t x (fun x=>evK t y (fun y=>unI x (fun q n=>unI y (fun _ m=>Bool.rec (motive:=fun _=>Prop) (k (.i q n) h) (k (.i q m) h) (ltI n m))))) ↔ _
  simp only [e]
def clrK (z:List AV) (x:AV) (h:Hp) (k:AV → Hp → Prop):Prop:=match x with
    | .nils=>k (.tup []) h
    | .sl b o n _ _=>if n = 0 then k (.tup []) h else evL (List.replicate n z).flatten (fun cs=>stK h b o cs (fun h'=>k (.tup []) h'))
    | _=>False
@[congr] theorem clrK_congr {z:List AV} {x:AV} {mk:Prop} (_:Mark = mk):clrK z x h k = clrK z x h k:=rfl
theorem clr_nils {z:List AV}:clrK z .nils h k ↔ k (.tup []) h:=Iff.rfl
theorem clr_sl {z:List AV} {b o n c:Nat} {l:Bool}:clrK z (.sl b o n c l) h k ↔ if n = 0 then k (.tup []) h else evL (List.replicate n z).flatten (fun cs=>stK h b o cs (fun h'=>k (.tup []) h')):=Iff.rfl
theorem op_clear {z:List AV} {x:O}:opK orc0 (.clear z x) t h k ↔ evK t x (fun x=>clrK z x h k):=by
  show evK t x (fun x=>_) ↔ _
  refine iff_of_eq (congrArg _ (funext fun v=>?_))
  cases v <;> first | rfl | skip
  rename_i b o n c l
  cases n with
  | zero=>simp only [clrK,if_true]; rfl
  | succ n=>simp only [clrK,repK_iff]; rfl
theorem op_mkM:opK orc0 .mkM t h k ↔ newK h (.map []) (fun b h'=>k (.map b) h'):=Iff.rfl
theorem op_storeD {n:Nat} {x v:O} {ps:List Nat}:opK orc0 (.storeD n x v ps) t h k ↔ evK t x (fun p=>unP p (fun b o=>apartK t b ps (evK t v (fun v=>stV h b o v n (fun h'=>k .undef h'))))):=Iff.rfl
theorem op_appD {esz bytes:Nat} {s x:O} {ps:List Nat}:opK orc0 (.appD esz bytes s x ps) t h k ↔ evK t s (fun s=>evK t x (fun x=>sApart t ps s (appK h esz bytes true s x k))):=Iff.rfl
@[congr] theorem sApart_congr {ps:List Nat} {s s':AV} {p:Prop} {mk:Prop} (_:Mark = mk) (h':s = s'):sApart t ps s p = sApart t ps s' p:=by rw [h']
theorem sap_own {ps:List Nat} {b m:Nat} {p:Prop}:sApart t ps (.own b m) p ↔ apartK t b ps p:=Iff.rfl
theorem sap_sl {ps:List Nat} {b o m c:Nat} {l:Bool} {p:Prop}:sApart t ps (.sl b o m c l) p ↔ apartK t b ps p:=Iff.rfl
theorem sap_fz {ps:List Nat} {m:Nat} {cs:List AV} {p:Prop}:sApart t ps (.fz m cs) p ↔ p:=Iff.rfl
theorem sap_nils {ps:List Nat} {p:Prop}:sApart t ps .nils p ↔ p:=Iff.rfl
theorem sap_e0 {ps:List Nat} {p:Prop}:sApart t ps .e0 p ↔ p:=Iff.rfl
@[congr] theorem apartK_congr {b:Nat} {ps:List Nat} {p:Prop} {mk:Prop} (_:Mark = mk):apartK t b ps p = apartK t b ps p:=rfl
theorem apart_nil {b:Nat} {p:Prop}:apartK t b [] p ↔ p:=Iff.rfl
def neK (b:Nat) (y:AV) (p:Prop):Prop:=match y with | .ptr b' _=>ifK (¬ b' = b) p | .pf _ _=>p | _=>False
@[congr] theorem neK_congr {b:Nat} {y:AV} {p:Prop} {mk:Prop} (_:Mark = mk):neK b y p = neK b y p:=rfl
theorem ne_ptr {b b' o:Nat} {p:Prop}:neK b (.ptr b' o) p ↔ ifK (¬ b' = b) p:=Iff.rfl
theorem ne_pf {b o:Nat} {cs:List AV} {p:Prop}:neK b (.pf cs o) p ↔ p:=Iff.rfl
theorem apart_cons {b q:Nat} {ps:List Nat} {p:Prop}:apartK t b (q :: ps) p ↔ evO (t.get q) (fun y=>neK b y (apartK t b ps p)):=by
  refine (Tr.getK_iff _ _ _).trans (iff_of_eq (congrArg _ (funext fun v=>?_)))
  refine congrArg _ ?_
  cases v <;> first | rfl | skip
  rename_i b' o
  refine propext ((whenK_iff _ _).trans ?_)
  show _ ∧ _ ↔ _ ∧ _
  have:(!Nat.beq b' b) = true ↔ ¬ b' = b:=by
    rw [Bool.not_eq_true',← Bool.not_eq_true,beq_iff]
  rw [this]; exact Iff.rfl
def cpK (x:AV) (k:AV → Prop):Prop:=match x with
    | .nils=>k (.i .i64 0)
    | .e0=>k (.i .i64 0)
    | .sl _ _ _ c false=>evA (.i .i64 (c:Int)) k
    | _=>False
@[congr] theorem cpK_congr {x:AV} {k:AV → Prop} {mk:Prop} (_:Mark = mk):cpK x k = cpK x k:=rfl
theorem op_cap {x:O}:opK orc0 (.cap x) t h k ↔ evK t x (fun x=>cpK x (fun v=>k v h)):=by
  show evK t x (fun x=>_) ↔ _
  refine iff_of_eq (congrArg _ (funext fun v=>?_))
  cases v <;> first | rfl | skip
  rename_i l
  cases l <;> rfl
theorem cp_nils {k:AV → Prop}:cpK .nils k ↔ k (.i .i64 0):=Iff.rfl
theorem cp_e0 {k:AV → Prop}:cpK .e0 k ↔ k (.i .i64 0):=Iff.rfl
theorem cp_sl {b o n c:Nat} {k:AV → Prop}:cpK (.sl b o n c false) k ↔ evA (.i .i64 (c:Int)) k:=Iff.rfl
theorem fill_nil {l:List AV} {k:List AV → Prop}:fillK t [] l k ↔ k l:=Iff.rfl
theorem fill_cons {off m:Nat} {x:O} {ps:List (Nat × Nat × O)} {l:List AV} {k:List AV → Prop}:fillK t ((off,m,x) :: ps) l k ↔ evK t x (fun v=>ifK (defd v = true) (evL (cellsOf v) (fun cs=>ifK (cs.length = m ∧ off + cs.length ≤ l.length) (evL (l.take off ++ (cs ++ l.drop (off + cs.length))) (fun l=>fillK t ps l k))))):=by
  show evK t x (fun v=>whenK (defd v) (forceN off (fun off=>lenK (cellsOf v) (fun n=>whenK (Nat.beq n m) (spliceK (cellsOf v) off l (fun l'=>fillK t ps l' k)))))) ↔ _
  simp only [whenK_iff,forceN_eq,lenK_iff,spliceK_iff,beq_iff,ifK,evL,and_assoc]
theorem src_nils {esz:Nat} {k:Nat → List AV → Prop}:srcK h esz .nils k ↔ k 0 []:=Iff.rfl
theorem src_nz {esz:Nat} {k:Nat → List AV → Prop}:srcK h esz .nz k ↔ k 0 []:=Iff.rfl
theorem src_e0 {esz:Nat} {k:Nat → List AV → Prop}:srcK h esz .e0 k ↔ k 0 []:=Iff.rfl
theorem src_sl {esz b o n c:Nat} {l:Bool} {k:Nat → List AV → Prop}:srcK h esz (.sl b o n c l) k ↔ evN (n * esz) (fun m=>ldsK h b o m (fun cs=>k n cs)):=Iff.rfl
theorem src_own {esz b n:Nat} {k:Nat → List AV → Prop}:srcK h esz (.own b n) k ↔ evN (n * esz) (fun m=>ldsK h b 0 m (fun cs=>k n cs)):=Iff.rfl
theorem src_fz {esz n:Nat} {cs:List AV} {k:Nat → List AV → Prop}:srcK h esz (.fz n cs) k ↔ evN (n * esz) (fun m=>cutK cs 0 m (fun cs=>k n cs)):=by
  refine (takeK_iff _ _ _).trans ⟨fun hh=>⟨Nat.zero_le _,by simpa using hh⟩,fun hh=>by simpa [evN,cutK] using hh⟩
theorem src_s {esz:Nat} {a:List UInt8} {k:Nat → List AV → Prop}:srcK h esz (.s a) k ↔ ifK (esz = 1) (k a.length (a.map fun c=>.i .u8 (Int.ofNat c.toNat))):=by
  show whenK (Nat.beq esz 1) (forceN a.length _) ↔ _
  rw [whenK_iff,beq_iff,forceN_eq]; exact Iff.rfl
theorem app_nils {esz bytes:Nat} {c:Bool} {x:AV}:appK h esz bytes c .nils x k ↔ srcK h esz x (fun n new=>ifK (n ≤ roomB) (ifK (n * bytes ≤ roomB) (newK h (.cells esz true true new) (fun b h'=>k (.own b n) h')))):=by
  show srcK h esz x (fun n new=>whenK (Nat.ble n roomB) (whenK (Nat.ble (Nat.mul n bytes) roomB) _)) ↔ _
  simp only [whenK_iff,ble_iff]; exact Iff.rfl
theorem app_e0 {esz bytes:Nat} {c:Bool} {x:AV}:appK h esz bytes c .e0 x k ↔ srcK h esz x (fun n new=>ifK (n ≤ roomB) (ifK (n * bytes ≤ roomB) (newK h (.cells esz true true new) (fun b h'=>k (.own b n) h')))):=by
  show srcK h esz x (fun n new=>whenK (Nat.ble n roomB) (whenK (Nat.ble (Nat.mul n bytes) roomB) _)) ↔ _
  simp only [whenK_iff,ble_iff]; exact Iff.rfl
theorem app_own {esz bytes b m:Nat} {x:AV}:appK h esz bytes true (.own b m) x k ↔ srcK h esz x (fun n new=>evN (m + n) (fun need=>ifK (need ≤ roomB) (ifK (need * bytes ≤ roomB) (evB (h.tr.get b) (fun y=>cellAt y (fun e w a ys =>
    ifK (cellsOk new = true ∧ w = true ∧ a = true ∧ e = esz ∧ ys.length = m * esz) (evL (ys ++ new) (fun cs'=>putK h b .dead (fun h1=>newK h1 (.cells esz true true cs') (fun b' h'=>k (.own b' need) h')))))))))):=by
  show srcK h esz x (fun n new=>forceN (Nat.add m n) (fun need=>whenK (Nat.ble need roomB) (whenK (Nat.ble (Nat.mul need bytes) roomB) (cellsK h b (fun e w a ys=>_))))) ↔ _
  simp only [forceN_ev,whenK_iff,ble_iff,beq_iff,cells_o,lenK_iff,catK_iff]
  refine iff_of_eq (congrArg _ (funext fun n=>funext fun new=>?_))
  simp only [ifK,evN,evL,and_assoc]
  rfl
theorem app_sl {esz bytes b o len cap:Nat} {c:Bool} {x:AV}:appK h esz bytes c (.sl b o len cap false) x k ↔ srcK h esz x (fun n new=>evN (len + n) (fun need=>if need ≤ cap then
    (if n = 0 then k (.sl b o need cap false) h else evN (o + len * esz) (fun at_=>stK h b at_ new (fun h'=>k (.sl b o need cap false) h')))
    else ifK (need ≤ roomB) (ifK (need * bytes ≤ roomB) (evN (len * esz) (fun m=>ldsK h b o m (fun old=>evL (old ++ new) (fun cs=>newK h (.cells esz true true cs) (fun b' h'=>k (.own b' need) h')))))))):=by
  have e:∀ (n:Nat) (p q:Prop),(Nat.rec (motive:=fun _=>Prop) p (fun _ _=>q) n:Prop) ↔ if n = 0 then p else q:=by
    intro n p q; cases n with
    | zero=>rw [if_pos rfl]; exact Iff.rfl
    | succ n=>rw [if_neg (Nat.succ_ne_zero n)]
  unfold appK
  dsimp only
  simp only [Bool.not_false,forceN_ev,when_if,ble_iff,rec_if,catK_iff,e,ifK_true]
  exact Iff.rfl
theorem app_fz {esz bytes m:Nat} {c:Bool} {cs:List AV} {x:AV}:appK h esz bytes c (.fz m cs) x k ↔ srcK h esz x (fun n _=>ifK (n = 0) (k (.fz m cs) h)):=by
  show srcK h esz x (fun n _=>Nat.rec (motive:=fun _=>Prop) (k (.fz m cs) h) (fun _ _=>False) n) ↔ _
  refine iff_of_eq (congrArg _ (funext fun n=>funext fun new=>?_))
  cases n <;> simp [ifK]
  rfl
theorem nil_nilp {k:Bool → Prop}:isNilK .ptr .nilp k ↔ k true:=Iff.rfl
theorem nil_ptr {b o:Nat} {k:Bool → Prop}:isNilK .ptr (.ptr b o) k ↔ k false:=Iff.rfl
theorem nil_pf {cs:List AV} {o:Nat} {k:Bool → Prop}:isNilK .ptr (.pf cs o) k ↔ k false:=Iff.rfl
theorem nil_nz {k:Bool → Prop}:isNilK .slice .nz k ↔ k false:=Iff.rfl
theorem nil_nils {k:Bool → Prop}:isNilK .slice .nils k ↔ k true:=Iff.rfl
theorem nil_sl {b o n c:Nat} {l:Bool} {k:Bool → Prop}:isNilK .slice (.sl b o n c l) k ↔ k false:=Iff.rfl
theorem nil_fz {n:Nat} {cs:List AV} {k:Bool → Prop}:isNilK .slice (.fz n cs) k ↔ ifK (1 ≤ n) (k false):=by
  show whenK (Nat.ble 1 n) (k false) ↔ _
  rw [whenK_iff,ble_iff]; exact Iff.rfl
theorem nil_own {b n:Nat} {k:Bool → Prop}:isNilK .slice (.own b n) k ↔ ifK (1 ≤ n) (k false):=by
  show whenK (Nat.ble 1 n) (k false) ↔ _
  rw [whenK_iff,ble_iff]; exact Iff.rfl
theorem nil_nilf {k:Bool → Prop}:isNilK .func .nilf k ↔ k true:=Iff.rfl
theorem nil_fn {f:Nat} {a c:List AV} {k:Bool → Prop}:isNilK .func (.fn f a c) k ↔ k false:=Iff.rfl
theorem nil_nili {k:Bool → Prop}:isNilK .iface .nili k ↔ k true:=Iff.rfl
theorem nil_ifc {t:Nat} {v:AV} {k:Bool → Prop}:isNilK .iface (.ifc t v) k ↔ k false:=Iff.rfl
theorem eqs_nil {x y:List AV} {k:Bool → Prop}:cellsEqK [] x y k ↔ k true:=Iff.rfl
theorem eqs_cons {q:PK} {qs:List PK} {u v:AV} {us vs:List AV} {k:Bool → Prop}:cellsEqK (q :: qs) (u :: us) (v :: vs) k ↔ cellEqK q u v (fun e=>if e = true then cellsEqK qs us vs k else k false):=by
  show cellEqK q u v (fun e=>Bool.rec (motive:=fun _=>Prop) (k false) (cellsEqK qs us vs k) e) ↔ _
  simp only [rec_if]
@[congr] theorem cellEqK_congr {q:PK} {x y:AV} {k:Bool → Prop} {mk:Prop} (_:Mark = mk):cellEqK q x y k = cellEqK q x y k:=rfl
theorem eq_i {q:IntKind} {n m:Int} {k:Bool → Prop}:cellEqK .i (.i q n) (.i q m) k ↔ evT (decide (n = m)) k:=by
  show whenK (decide (q = q)) (forceB (eqI n m) k) ↔ _
  rw [whenK_iff,eqI_ev,forceB_eq]; simp [evT]
theorem eq_s {a c:List UInt8} {k:Bool → Prop}:cellEqK .s (.s a) (.s c) k ↔ evT (decide (a = c)) k:=by
  show forceB (eqS a c) k ↔ _
  rw [forceB_eq,eqS_eq,show (a == c) = decide (a = c) from by rw [Bool.eq_iff_iff]; simp]; exact Iff.rfl
theorem eq_b {a c:Bool} {k:Bool → Prop}:cellEqK .b (.b a) (.b c) k ↔ evT (a == c) k:=by
  show forceB (a == c) k ↔ _
  rw [forceB_eq]; exact Iff.rfl
theorem endX_ret {rs:List RV} {k:AV → Hp → Prop}:endX rs k .ret t h ↔ resK t h rs (fun vs=>k (packR vs) h):=Iff.rfl
theorem endX_normal {rs:List RV} {k:AV → Hp → Prop}:endX rs k .normal t h ↔ resK t h rs (fun vs=>k (packR vs) h):=Iff.rfl
@[congr] theorem resK_congr {rs:List RV} {k:List AV → Prop} {mk:Prop} (_:Mark = mk):resK t h rs k = resK t h rs k:=rfl
theorem res_nil {k:List AV → Prop}:resK t h [] k ↔ k []:=Iff.rfl
theorem res_tmp {n:Nat} {rs:List RV} {k:List AV → Prop}:resK t h (.tmp n :: rs) k ↔ evO (t.get n) (fun v=>resK t h rs (fun vs=>k (v :: vs))):=Tr.getK_iff _ _ _
theorem res_cell {n size:Nat} {agg:Bool} {rs:List RV} {k:List AV → Prop}:resK t h (.cell n size agg :: rs) k ↔ evO (t.get n) (fun v=>unP v (fun b o=>if agg = true then ldsK h b o size (fun cs=>resK t h rs (fun vs=>k (.agg cs :: vs))) else ldK h b o (fun v=>resK t h rs (fun vs=>k (v :: vs))))):=by
  refine (Tr.getK_iff _ _ _).trans (iff_of_eq (congrArg _ (funext fun v=>congrArg _ ?_)))
  cases v <;> first | rfl | skip
  cases agg <;> rfl
end Go.Kc
end
section
/- Rules for results and for states written out; maps. No condition. -/
namespace Go.Kc
variable {P:Program} {n:Nat} {t:Tr AV} {h:Hp} {k:AV → Hp → Prop}

section
variable {r:Nat → Nat} {m:Nat} {v v':AV} {vs vs':List AV}
theorem nv_undef:NV r m v .undef ↔ True:=iff_true_intro (.undef _)
theorem nv_b {x y:Bool}:NV r m (.b x) (.b y) ↔ x = y:=⟨fun h=>by cases h; rfl,fun h=>by subst h; exact .clo _ rfl⟩
theorem nv_i {q q':IntKind} {x y:Int}:NV r m (.i q x) (.i q' y) ↔ q = q' ∧ x = y:=⟨fun h=>by cases h; exact ⟨rfl,rfl⟩,fun ⟨h,h'⟩=>by subst h h'; exact .clo _ rfl⟩
theorem nv_s {x y:List UInt8}:NV r m (.s x) (.s y) ↔ x = y:=⟨fun h=>by cases h; rfl,fun h=>by subst h; exact .clo _ rfl⟩
theorem nv_nilp:NV r m .nilp .nilp ↔ True:=iff_true_intro (.clo _ rfl)
theorem nv_nils:NV r m .nils .nils ↔ True:=iff_true_intro (.clo _ rfl)
theorem nv_nilf:NV r m .nilf .nilf ↔ True:=iff_true_intro (.clo _ rfl)
theorem nv_nili:NV r m .nili .nili ↔ True:=iff_true_intro (.clo _ rfl)
theorem nv_nilm:NV r m .nilm .nilm ↔ True:=iff_true_intro (.clo _ rfl)
theorem nv_e0:NV r m .e0 .e0 ↔ True:=iff_true_intro (.clo _ rfl)
theorem nv_nz:NV r m .nz .nz ↔ True:=iff_true_intro (.clo _ rfl)
theorem nv_e0z {x:Nat} {cs:List AV}:NV r m .e0 (.fz x cs) ↔ x = 0 ∧ cs = []:=⟨fun h=>by cases h; exact ⟨rfl,rfl⟩,fun ⟨h,h'⟩=>by subst h h'; exact .e0z⟩
theorem nv_e0own {b' x':Nat}:NV r m .e0 (.own b' x') ↔ b' < m ∧ x' = 0:=⟨fun h=>by
    cases h with
    | e0own _ h1=>exact ⟨h1,rfl⟩,fun ⟨h1,h2⟩=>by subst h2; exact .e0own _ h1⟩
theorem nv_slz {b b' o x c x':Nat} {l:Bool}:NV r m (.sl b o x c l) (.own b' x') ↔ b' < m ∧ x = 0 ∧ c = 0 ∧ l = false ∧ x' = 0:=⟨fun h=>by
    cases h with
    | slz _ _ _ h1=>exact ⟨h1,rfl,rfl,rfl,rfl⟩,fun ⟨h1,h2,h3,h4,h5⟩=>by subst h2 h3 h4 h5; exact .slz _ _ _ h1⟩
theorem nv_fz {x y:Nat} {cs ds:List AV}:NV r m (.fz x cs) (.fz y ds) ↔ x = y ∧ cs = ds:=⟨fun h=>by cases h; exact ⟨rfl,rfl⟩,fun ⟨h,h'⟩=>by subst h h'; exact .clo _ rfl⟩
theorem nv_pf {x y:Nat} {cs ds:List AV}:NV r m (.pf cs x) (.pf ds y) ↔ cs = ds ∧ x = y:=⟨fun h=>by cases h; exact ⟨rfl,rfl⟩,fun ⟨h,h'⟩=>by subst h h'; exact .clo _ rfl⟩
theorem nv_nilz {x:Nat} {cs:List AV}:NV r m .nils (.fz x cs) ↔ x = 0 ∧ cs = []:=⟨fun h=>by cases h; exact ⟨rfl,rfl⟩,fun ⟨h,h'⟩=>by subst h h'; exact .nilz⟩
theorem nv_ptr {b b' o o':Nat}:NV r m (.ptr b o) (.ptr b' o') ↔ r b' = b ∧ b' < m ∧ o = o':=⟨fun h=>by
    cases h with
    | clo _ hc=>cases hc
    | ptr _ _ _ h1 h2=>exact ⟨h1,h2,rfl⟩,fun ⟨h1,h2,h3⟩=>by subst h3; exact .ptr _ _ _ h1 h2⟩
theorem nv_sl {b b' o o' x x' c c':Nat} {l l':Bool}:NV r m (.sl b o x c l) (.sl b' o' x' c' l') ↔ r b' = b ∧ b' < m ∧ o = o' ∧ x = x' ∧ c = c' ∧ l = l':=⟨fun h=>by
    cases h with
    | clo _ hc=>cases hc
    | sl _ _ _ _ _ _ h1 h2=>exact ⟨h1,h2,rfl,rfl,rfl,rfl⟩,fun ⟨h1,h2,h3,h4,h5,h6⟩=>by subst h3 h4 h5 h6; exact .sl _ _ _ _ _ _ h1 h2⟩
theorem nv_own {b b' x x':Nat}:NV r m (.own b x) (.own b' x') ↔ r b' = b ∧ b' < m ∧ x = x':=⟨fun h=>by
    cases h with
    | clo _ hc=>cases hc
    | own _ _ _ h1 h2=>exact ⟨h1,h2,rfl⟩,fun ⟨h1,h2,h3⟩=>by subst h3; exact .own _ _ _ h1 h2⟩
theorem nv_nilown {b' x':Nat}:NV r m .nils (.own b' x') ↔ b' < m ∧ x' = 0:=⟨fun h=>by
    cases h with
    | nilown _ h1=>exact ⟨h1,rfl⟩,fun ⟨h1,h2⟩=>by subst h2; exact .nilown _ h1⟩
theorem nv_map {b b':Nat}:NV r m (.map b) (.map b') ↔ r b' = b ∧ b' < m:=⟨fun h=>by
    cases h with
    | clo _ hc=>cases hc
    | map _ _ h1 h2=>exact ⟨h1,h2⟩,fun ⟨h1,h2⟩=>.map _ _ h1 h2⟩
theorem nvs_nil:NVs r m [] [] ↔ True:=iff_true_intro .nil
theorem nvs_cons:NVs r m (v :: vs) (v' :: vs') ↔ NV r m v v' ∧ NVs r m vs vs':=⟨fun h=>by
    cases h with
    | cons _ _ _ _ h1 h2=>exact ⟨h1,h2⟩,fun h=>.cons _ _ _ _ h.1 h.2⟩
theorem nv_agg {cs cs':List AV}:NV r m (.agg cs) (.agg cs') ↔ NVs r m cs cs':=⟨fun h=>by
    cases h with
    | clo _ hc=>exact NVs.refl (by simpa [clo] using hc)
    | agg _ _ h1=>exact h1,fun h=>.agg _ _ h⟩
theorem nv_tup {cs cs':List AV}:NV r m (.tup cs) (.tup cs') ↔ NVs r m cs cs':=⟨fun h=>by
    cases h with
    | clo _ hc=>exact NVs.refl (by simpa [clo] using hc)
    | tup _ _ h1=>exact h1,fun h=>.tup _ _ h⟩
theorem nv_fn {f f':Nat} {a a' c c':List AV}:NV r m (.fn f a c) (.fn f' a' c') ↔ f = f' ∧ NVs r m a a' ∧ NVs r m c c':=⟨fun h=>by
    cases h with
    | clo _ hc =>
      simp only [clo,Bool.and_eq_true] at hc
      exact ⟨rfl,NVs.refl hc.1,NVs.refl hc.2⟩
    | fn _ _ _ _ _ h1 h2=>exact ⟨rfl,h1,h2⟩,fun ⟨h1,h2,h3⟩=>by subst h1; exact .fn _ _ _ _ _ h2 h3⟩
theorem nv_ifc {f f':Nat}:NV r m (.ifc f v) (.ifc f' v') ↔ f = f' ∧ NV r m v v':=⟨fun h=>by
    cases h with
    | clo _ hc=>exact ⟨rfl,.clo _ (by simpa [clo] using hc)⟩
    | ifc _ _ _ h1=>exact ⟨rfl,h1⟩,fun ⟨h1,h2⟩=>by subst h1; exact .ifc _ _ _ h2⟩
theorem tws_nil:TWs t r m [] ↔ True:=Iff.rfl
theorem tws_cons {p:Nat × AV} {l:List (Nat × AV)}:TWs t r m (p :: l) ↔ evO (t.get p.1) (fun v=>NV r m v p.2) ∧ TWs t r m l:=Iff.rfl
theorem bws_nil:BWs h r m [] [] ↔ True:=Iff.rfl
theorem bws_cons {b:Nat} {x:Blk} {bs:List Nat} {xs:List Blk}:BWs h r m (b :: bs) (x :: xs) ↔ BW h r m b x ∧ BWs h r m bs xs:=Iff.rfl
theorem bw_new {b:Nat} {x:Blk} (hb:h.sz ≤ b):BW h r m b x ↔ True:=iff_true_intro (.inl hb)
theorem bw_dead {b:Nat}:BW h r m b .dead ↔ True:=iff_true_intro (.inr (.inl rfl))
theorem bw_old {b e:Nat} {w a:Bool} {cs':List AV} (hb:b < h.sz):BW h r m b (.cells e w a cs') ↔ evB (h.tr.get b) (fun x=>cellAt x (fun e0 w0 a0 cs=>e0 = e ∧ (w = true → w0 = true) ∧ (a = true → a0 = true) ∧ NVs r m cs cs')):=by
  constructor
  · rintro (h1 | h1 | ⟨e',w0,a0,cs,w',a',cs'',h1,h2,h3,h4,h5⟩ | ⟨es,h1,h2,h3⟩)
    · omega
    · cases h1
    · cases h2
      exact ⟨_,h1,rfl,h3,h4,h5⟩
    · cases h2
  · rintro ⟨x,h1,h2⟩
    cases x with
    | cells e0 w0 a0 cs =>
      obtain ⟨rfl,h3,h4,h5⟩:=h2
      exact .inr (.inr (.inl ⟨_,w0,a0,cs,w,a,cs',h1,rfl,h3,h4,h5⟩))
    | dead=>exact h2.elim
    | map es=>exact h2.elim
end
theorem rl_0 {b d:Nat} {l:List Nat}:rl (b :: l) d 0 = b:=rfl
theorem rl_s {b d i:Nat} {l:List Nat}:rl (b :: l) d (i + 1) = rl l d i:=rfl

section
variable {v v':AV} {vs vs':List AV}
theorem fr_undef:Frz h v .undef ↔ True:=iff_true_intro (.undef _)
theorem fr_b {x y:Bool}:Frz h (.b x) (.b y) ↔ x = y:=⟨fun h=>by cases h; rfl,fun h=>by subst h; exact .b _⟩
theorem fr_i {q q':IntKind} {x y:Int}:Frz h (.i q x) (.i q' y) ↔ q = q' ∧ x = y:=⟨fun h=>by cases h; exact ⟨rfl,rfl⟩,fun ⟨h,h'⟩=>by subst h h'; exact .i _ _⟩
theorem fr_s {x y:List UInt8}:Frz h (.s x) (.s y) ↔ x = y:=⟨fun h=>by cases h; rfl,fun h=>by subst h; exact .s _⟩
theorem fr_nilp:Frz h .nilp .nilp ↔ True:=iff_true_intro .nilp
theorem fr_nils:Frz h .nils .nils ↔ True:=iff_true_intro .nils
theorem fr_nilf:Frz h .nilf .nilf ↔ True:=iff_true_intro .nilf
theorem fr_nili:Frz h .nili .nili ↔ True:=iff_true_intro .nili
theorem fr_nilm:Frz h .nilm .nilm ↔ True:=iff_true_intro .nilm
theorem fr_e0:Frz h .e0 .e0 ↔ True:=iff_true_intro .e0
theorem fr_nz:Frz h .nz .nz ↔ True:=iff_true_intro .nz
theorem fr_e0z {x:Nat} {cs:List AV}:Frz h .e0 (.fz x cs) ↔ x = 0 ∧ cs = []:=⟨fun h=>by cases h; exact ⟨rfl,rfl⟩,fun ⟨h,h'⟩=>by subst h h'; exact .e0z⟩
theorem fr_fz {x y:Nat} {cs ds:List AV}:Frz h (.fz x cs) (.fz y ds) ↔ x = y ∧ cs = ds:=⟨fun h=>by cases h; exact ⟨rfl,rfl⟩,fun ⟨h,h'⟩=>by subst h h'; exact .fz _ _⟩
theorem fr_pf {x y:Nat} {cs ds:List AV}:Frz h (.pf cs x) (.pf ds y) ↔ cs = ds ∧ x = y:=⟨fun h=>by cases h; exact ⟨rfl,rfl⟩,fun ⟨h,h'⟩=>by subst h h'; exact .pf _ _⟩
theorem fr_nilz {x:Nat} {cs:List AV}:Frz h .nils (.fz x cs) ↔ x = 0 ∧ cs = []:=⟨fun h=>by cases h; exact ⟨rfl,rfl⟩,fun ⟨h,h'⟩=>by subst h h'; exact .nilz⟩
theorem frs_nil:Frzs h [] [] ↔ True:=iff_true_intro .nil
theorem frs_cons:Frzs h (v :: vs) (v' :: vs') ↔ Frz h v v' ∧ Frzs h vs vs':=⟨fun h=>by
    cases h with
    | cons _ _ _ _ h1 h2=>exact ⟨h1,h2⟩,fun h=>.cons _ _ _ _ h.1 h.2⟩
theorem fr_agg {cs cs':List AV}:Frz h (.agg cs) (.agg cs') ↔ Frzs h cs cs':=⟨fun h=>by cases h; assumption,fun h=>.agg _ _ h⟩
theorem fr_tup {cs cs':List AV}:Frz h (.tup cs) (.tup cs') ↔ Frzs h cs cs':=⟨fun h=>by cases h; assumption,fun h=>.tup _ _ h⟩
theorem frz_fn {f f':Nat} {a a' c c':List AV}:Frz h (.fn f a c) (.fn f' a' c') ↔ f = f' ∧ Frzs h a a' ∧ Frzs h c c':=⟨fun h=>by
    cases h with
    | fn _ _ _ _ _ h1 h2=>exact ⟨rfl,h1,h2⟩,fun ⟨h1,h2,h3⟩=>by subst h1; exact .fn _ _ _ _ _ h2 h3⟩
theorem fr_ifc {f f':Nat}:Frz h (.ifc f v) (.ifc f' v') ↔ f = f' ∧ Frz h v v':=⟨fun h=>by
    cases h with
    | ifc _ _ _ h1=>exact ⟨rfl,h1⟩,fun ⟨h1,h2⟩=>by subst h1; exact .ifc _ _ _ h2⟩
theorem fr_own {b x y:Nat} {cs':List AV}:Frz h (.own b x) (.fz y cs') ↔ x = y ∧ evB (h.tr.get b) (fun z=>cellAt z (fun _ w _ ys=>w = true ∧ (x = 0 → ys = []) ∧ Frzs h ys cs')):=by
  constructor
  · intro hh
    cases hh with
    | own _ _ e af ys _ hb h0 h1=>exact ⟨rfl,_,hb,rfl,h0,h1⟩
  · rintro ⟨rfl,z,h1,h2⟩
    cases z with
    | cells e w af ys =>
      obtain ⟨rfl,h3,h4⟩:=h2
      exact .own _ _ e af ys _ h1 h3 h4
    | dead=>exact h2.elim
    | map es=>exact h2.elim
theorem fr_ptr {b x y:Nat} {cs':List AV}:Frz h (.ptr b x) (.pf cs' y) ↔ x = y ∧ evB (h.tr.get b) (fun z=>cellAt z (fun _ w _ ys=>w = true ∧ Frzs h ys cs')):=by
  constructor
  · intro hh
    cases hh with
    | ptr _ _ e af ys _ hb h1=>exact ⟨rfl,_,hb,rfl,h1⟩
  · rintro ⟨rfl,z,h1,h2⟩
    cases z with
    | cells e w af ys =>
      obtain ⟨rfl,h4⟩:=h2
      exact .ptr _ _ e af ys _ h1 h4
    | dead=>exact h2.elim
    | map es=>exact h2.elim
theorem Frz.cut {b o x c:Nat} {l:Bool} {y:Nat} {cs':List AV} (esz:Nat) (hx:x = y) (hc:x ≤ c) (hg:evB (h.tr.get b) (fun z=>cellAt z (fun _ w _ cs=>w = true ∧ o + x * esz ≤ cs.length ∧ Frzs h ((cs.drop o).take (x * esz)) cs'))):Frz h (.sl b o x c l) (.fz y cs'):=by
  subst hx
  obtain ⟨z,h1,h2⟩:=hg
  cases z with
  | cells e w af cs =>
    obtain ⟨rfl,h3,h4⟩:=h2
    exact .sl _ _ _ _ _ e af cs (x * esz) _ h1 hc h3 (fun hh=>by rw [hh] at hc; simp [Nat.le_zero.1 hc]) h4
  | dead=>exact h2.elim
  | map es=>exact h2.elim
end
mutual
theorem Frz.self:∀ {v:AV},clo v = true → Frz h v v
  | .undef,_=>.undef _
  | .b _,_=>.b _
  | .i _ _,_=>.i _ _
  | .s _,_=>.s _
  | .nilp,_=>.nilp
  | .ptr _ _,hc=>by simp [clo] at hc
  | .nils,_=>.nils
  | .sl _ _ _ _ _,hc=>by simp [clo] at hc
  | .nilf,_=>.nilf
  | .fn _ _ _,hc=>by
    simp only [clo,Bool.and_eq_true] at hc
    exact .fn _ _ _ _ _ (Frzs.self hc.1) (Frzs.self hc.2)
  | .nili,_=>.nili
  | .ifc _ _,hc=>.ifc _ _ _ (Frz.self (by simpa [clo] using hc))
  | .agg _,hc=>.agg _ _ (Frzs.self (by simpa [clo] using hc))
  | .tup _,hc=>.tup _ _ (Frzs.self (by simpa [clo] using hc))
  | .nilm,_=>.nilm
  | .map _,hc=>by simp [clo] at hc
  | .fz _ _,_=>.fz _ _
  | .pf _ _,_=>.pf _ _
  | .e0,_=>.e0
  | .nz,_=>.nz
  | .own _ _,hc=>by simp [clo] at hc
  | .sym _,hc=>by simp [clo] at hc
theorem Frzs.self:∀ {vs:List AV},clos vs = true → Frzs h vs vs
  | [],_=>.nil
  | v :: vs,hc=>by
    simp only [clos,Bool.and_eq_true] at hc
    exact .cons _ _ _ _ (Frz.self hc.1) (Frzs.self hc.2)
end
end Go.Kc
end
section
/- Maps; the rules in bundles; rows of elements. No condition. -/
namespace Go.Kc
variable {P:Program} {n:Nat} {t:Tr AV} {h:Hp} {k:AV → Hp → Prop}

@[congr] theorem keyK_congr {kd:Option IntKind} {i:AV} {p:Prop} {mk:Prop} (_:Mark = mk):keyK orc0 kd i p = keyK orc0 kd i p:=rfl
@[congr] theorem mapK_congr {b:Nat} {k:List (AV × AV) → Prop} {mk:Prop} (_:Mark = mk):mapK h b k = mapK h b k:=rfl
@[congr] theorem isMapK_congr {es:List (AV × AV)} {p:Prop} {mk:Prop} (_:Mark = mk):isMapK es p = isMapK es p:=rfl
theorem key_s {a:List UInt8} {p:Prop}:keyK orc0 none (.s a) p ↔ p:=Iff.rfl
theorem key_i {q:IntKind} {z:Int} {p:Prop}:keyK orc0 (some q) (.i q z) p ↔ p:=by
  show whenK (decide (q = q)) p ↔ p
  rw [whenK_iff]; simp
theorem ismap_nil {p:Prop}:isMapK [] p ↔ p:=Iff.rfl
theorem ismap_s {a:List UInt8} {v:AV} {es:List (AV × AV)} {p:Prop}:isMapK ((.s a,v) :: es) p ↔ p:=Iff.rfl
theorem ismap_i {q:IntKind} {z:Int} {v:AV} {es:List (AV × AV)} {p:Prop}:isMapK ((.i q z,v) :: es) p ↔ p:=Iff.rfl
def mapAt (x:Blk) (k:List (AV × AV) → Prop):Prop:=match x with | .map es=>k es | _=>False
@[congr] theorem mapAt_congr {x x':Blk} {k:List (AV × AV) → Prop} {mk:Prop} (_:Mark = mk) (h:x = x'):mapAt x k = mapAt x' k:=by rw [h]
theorem mapAt_map {es:List (AV × AV)} {k:List (AV × AV) → Prop}:mapAt (.map es) k ↔ k es:=Iff.rfl
theorem map_o {b:Nat} {k:List (AV × AV) → Prop}:mapK h b k ↔ evB (h.tr.get b) (fun x=>mapAt x (fun es=>isMapK es (k es))):=by
  unfold mapK
  refine (Tr.getK_iff _ _ _).trans (iff_of_eq (congrArg _ (funext fun x=>congrArg _ ?_)))
  cases x <;> rfl
theorem find_nil {i:AV} {k:Option AV → Prop}:findK orc0 i [] k ↔ k none:=Iff.rfl
theorem find_s {i a:List UInt8} {v:AV} {es:List (AV × AV)} {k:Option AV → Prop}:findK orc0 (.s i) ((.s a,v) :: es) k ↔ if i = a then k (some v) else findK orc0 (.s i) es k:=by
  show forceB (eqS i a) (fun r=>Bool.rec (motive:=fun _=>Prop) (findK orc0 (.s i) es k) (k (some v)) r) ↔ _
  rw [forceB_eq,rec_if,eqS_eq]; simp
theorem find_i {q:IntKind} {i a:Int} {v:AV} {es:List (AV × AV)} {k:Option AV → Prop}:findK orc0 (.i q i) ((.i q a,v) :: es) k ↔ if i = a then k (some v) else findK orc0 (.i q i) es k:=by
  show whenK (decide (q = q)) (forceB (eqI i a) (fun r=>Bool.rec (motive:=fun _=>Prop) (findK orc0 (.i q i) es k) (k (some v)) r)) ↔ _
  rw [whenK_iff,forceB_eq,rec_if,eqI_ev]; simp
theorem upd_nil {i v:AV} {k:List (AV × AV) → Prop}:updK orc0 i v [] k ↔ k [(i,v)]:=Iff.rfl
theorem upd_s {i a:List UInt8} {u v:AV} {es:List (AV × AV)} {k:List (AV × AV) → Prop}:updK orc0 (.s i) u ((.s a,v) :: es) k ↔ if i = a then k ((.s i,u) :: es) else updK orc0 (.s i) u es (fun l=>k ((.s a,v) :: l)):=by
  show forceB (eqS i a) (fun r=>Bool.rec (motive:=fun _=>Prop) (updK orc0 (.s i) u es (fun l=>k ((.s a,v) :: l))) (k ((.s i,u) :: es)) r) ↔ _
  rw [forceB_eq,rec_if,eqS_eq]; simp
theorem upd_i {q:IntKind} {i a:Int} {u v:AV} {es:List (AV × AV)} {k:List (AV × AV) → Prop}:updK orc0 (.i q i) u ((.i q a,v) :: es) k ↔ if i = a then k ((.i q i,u) :: es) else updK orc0 (.i q i) u es (fun l=>k ((.i q a,v) :: l)):=by
  show whenK (decide (q = q)) (forceB (eqI i a) (fun r=>Bool.rec (motive:=fun _=>Prop) (updK orc0 (.i q i) u es (fun l=>k ((.i q a,v) :: l))) (k ((.i q i,u) :: es)) r)) ↔ _
  rw [whenK_iff,forceB_eq,rec_if,eqI_ev]; simp
@[congr] theorem ansM_congr {ok:Bool} {z:AV} {v v':Option AV} {k:AV → Prop} {mk:Prop} (_:Mark = mk) (h:v = v'):ansM ok z v k = ansM ok z v' k:=by rw [h]
theorem ans_none {z:AV} {k:AV → Prop}:ansM false z none k ↔ k z:=Iff.rfl
theorem ans_noneT {z:AV} {k:AV → Prop}:ansM true z none k ↔ k (.tup [z,.b false]):=Iff.rfl
theorem ans_some {z v:AV} {k:AV → Prop}:ansM false z (some v) k ↔ k v:=Iff.rfl
theorem ans_someT {z v:AV} {k:AV → Prop}:ansM true z (some v) k ↔ k (.tup [v,.b true]):=Iff.rfl
def lkK (h:Hp) (ok:Bool) (zero x i:AV) (k:AV → Prop):Prop:=match x with
    | .nilm=>ansM ok zero none k
    | .map r=>mapK h r (fun es=>findK orc0 i es (fun v=>ansM ok zero v k))
    | _=>False
@[congr] theorem lkK_congr {ok:Bool} {z x i:AV} {k:AV → Prop} {mk:Prop} (_:Mark = mk):lkK h ok z x i k = lkK h ok z x i k:=rfl
theorem lk_nil {ok:Bool} {z i:AV} {k:AV → Prop}:lkK h ok z .nilm i k ↔ ansM ok z none k:=Iff.rfl
theorem lk_map {ok:Bool} {z i:AV} {r:Nat} {k:AV → Prop}:lkK h ok z (.map r) i k ↔ mapK h r (fun es=>findK orc0 i es (fun v=>ansM ok z v k)):=Iff.rfl
theorem op_lookM {kd:Option IntKind} {ok:Bool} {z:AV} {x i:O}:opK orc0 (.lookM kd ok z x i) t h k ↔ evK t x (fun x=>evK t i (fun i=>keyK orc0 kd i (lkK h ok z x i (fun v=>k v h)))):=Iff.rfl
def upK (h:Hp) (x i v:AV) (k:Hp → Prop):Prop:=match x with
    | .map r=>mapK h r (fun es=>updK orc0 i v es (fun es'=>putK h r (.map es') k))
    | _=>False
@[congr] theorem upK_congr {x i v:AV} {k:Hp → Prop} {mk:Prop} (_:Mark = mk):upK h x i v k = upK h x i v k:=rfl
theorem up_map {i v:AV} {r:Nat} {k:Hp → Prop}:upK h (.map r) i v k ↔ mapK h r (fun es=>updK orc0 i v es (fun es'=>putK h r (.map es') k)):=Iff.rfl
theorem op_updM {kd:Option IntKind} {x i v:O}:opK orc0 (.updM kd x i v) t h k ↔ evK t x (fun x=>evK t i (fun i=>evK t v (fun v=>keyK orc0 kd i (upK h x i v (fun h'=>k .undef h'))))):=Iff.rfl

theorem cells_nil:cellsOk [] = true:=rfl
theorem cells_cons {v:AV} {vs:List AV}:cellsOk (v :: vs) = (cellOk v && cellsOk vs):=by
  show (Bool.rec (motive:=fun _=>Bool) false (cellsOk vs) (cellOk v):Bool) = _
  cases cellOk v <;> rfl
theorem cell_b {x:Bool}:cellOk (.b x) = true:=rfl
theorem cell_i {q:IntKind} {x:Int}:cellOk (.i q x) = true:=rfl
theorem cell_s {x:List UInt8}:cellOk (.s x) = true:=rfl
theorem cell_nilp:cellOk .nilp = true:=rfl
theorem cell_ptr {b o:Nat}:cellOk (.ptr b o) = true:=rfl
theorem cell_nils:cellOk .nils = true:=rfl
theorem cell_sl {b o x c:Nat} {l:Bool}:cellOk (.sl b o x c l) = true:=rfl
theorem cell_nilf:cellOk .nilf = true:=rfl
theorem cell_fn {f:Nat} {a c:List AV}:cellOk (.fn f a c) = true:=rfl
theorem cell_nili:cellOk .nili = true:=rfl
theorem cell_ifc {f:Nat} {v:AV}:cellOk (.ifc f v) = true:=rfl
theorem cell_nilm:cellOk .nilm = true:=rfl
theorem cell_map {b:Nat}:cellOk (.map b) = true:=rfl
theorem cell_fz {n:Nat} {cs:List AV}:cellOk (.fz n cs) = true:=rfl
theorem cell_pf {n:Nat} {cs:List AV}:cellOk (.pf cs n) = true:=rfl
theorem cell_e0:cellOk .e0 = true:=rfl
theorem cell_nz:cellOk .nz = true:=rfl
theorem cell_own {b n:Nat}:cellOk (.own b n) = true:=rfl
theorem cells_append {a b:List AV}:cellsOk (a ++ b) = (cellsOk a && cellsOk b):=by
  induction a with
  | nil=>simp [cells_nil]
  | cons v a ih=>simp [cells_cons,ih,Bool.and_assoc]
theorem cells_map {α:Type} {f:α → AV} {xs:List α} (h:∀ x,cellOk (f x) = true):cellsOk (xs.map f) = true:=by
  induction xs with
  | nil=>rfl
  | cons v a ih=>simp [cells_cons,ih,h]
theorem cells_flat {α:Type} {f:α → List AV} {xs:List α} (h:∀ x,cellsOk (f x) = true):cellsOk (xs.flatMap f) = true:=by
  induction xs with
  | nil=>rfl
  | cons v a ih=>simp [List.flatMap_cons,cells_append,ih,h]
theorem clos_append {a b:List AV}:clos (a ++ b) = (clos a && clos b):=by
  induction a with
  | nil=>simp [clos]
  | cons v a ih=>simp [clos,ih,Bool.and_assoc]
theorem clos_map {α:Type} {f:α → AV} {xs:List α} (h:∀ x,clo (f x) = true):clos (xs.map f) = true:=by
  induction xs with
  | nil=>rfl
  | cons v a ih=>simp [clos,ih,h]
theorem clos_flat {α:Type} {f:α → List AV} {xs:List α} (h:∀ x,clos (f x) = true):clos (xs.flatMap f) = true:=by
  induction xs with
  | nil=>rfl
  | cons v a ih=>simp [List.flatMap_cons,clos_append,ih,h]
theorem flat_length {α:Type} {f:α → List AV} {m:Nat} (h:∀ x,(f x).length = m) (xs:List α):(xs.flatMap f).length = xs.length * m:=by
  induction xs with
  | nil=>simp
  | cons v a ih=>simp [ih,h,Nat.add_mul,Nat.add_comm]
theorem flat_drop {α:Type} {f:α → List AV} {m:Nat} (h:∀ x,(f x).length = m):∀ (xs:List α) (j:Nat),(xs.flatMap f).drop (j * m) = (xs.drop j).flatMap f
  | [],j=>by simp
  | x :: xs,0=>by simp
  | x :: xs,j + 1=>by
    simp only [List.flatMap_cons,List.drop_succ_cons]
    rw [Nat.add_mul,Nat.one_mul,Nat.add_comm,← List.drop_drop,List.drop_left' (h x)]
    exact flat_drop h xs j
theorem flat_take {α:Type} {f:α → List AV} {m:Nat} (h:∀ x,(f x).length = m):∀ (xs:List α) (j:Nat),(xs.flatMap f).take (j * m) = (xs.take j).flatMap f
  | [],j=>by simp
  | x :: xs,0=>by simp
  | x :: xs,j + 1=>by
    simp only [List.flatMap_cons,List.take_succ_cons]
    rw [Nat.add_mul,Nat.one_mul,Nat.add_comm (j * m),← h x,List.take_length_add_append,h x,flat_take h xs j]
theorem flat_get {α:Type} {f:α → List AV} {m:Nat} (h:∀ x,(f x).length = m) {xs:List α} {j:Nat} {x:α} (hx:xs[j]? = some x) {i:Nat} (hi:i < m):(xs.flatMap f)[j * m + i]? = (f x)[i]?:=by
  rw [← List.getElem?_drop,flat_drop h]
  obtain ⟨hj,rfl⟩:=List.getElem?_eq_some_iff.1 hx
  rw [List.drop_eq_getElem_cons hj,List.flatMap_cons,List.getElem?_append_left (by rw [h]; exact hi)]
theorem flat_elem {α:Type} {f:α → List AV} {m:Nat} (h:∀ x,(f x).length = m) {xs:List α} {j:Nat} {x:α} (hx:xs[j]? = some x):((xs.flatMap f).drop (j * m)).take m = f x:=by
  rw [flat_drop h]
  obtain ⟨hj,rfl⟩:=List.getElem?_eq_some_iff.1 hx
  rw [List.drop_eq_getElem_cons hj,List.flatMap_cons,List.take_left' (h _)]

theorem SL.loop {α:Type} {x:ICode} {Q:X → Tr AV → Hp → Prop} (T:α → List (Nat × AV)) (B:α → List Blk) (I:α → Prop) (μ:α → Nat) (a0:α) (src:List Nat)
    (hT:TWs t (rl src h.sz) (B a0).length (T a0)) (hB:BWs h (rl src h.sz) (B a0).length src (B a0)) (hI:(src.filter fun b=>decide (b < h.sz)).Nodup) (hfl:h.fl = 0) (h0:I a0)
    (step:∀ a,I a → ∀ G:Tr AV → Hp → Prop,(∀ b,I b → μ b < μ a → ∀ t' h',Wk 0 t' h' (mkT (T b)) (mkH 0 (B b)) → G t' h') →
      V P 0 x (fun e t h=>onX e (G t h) (fun id=>Q (.exit id) t h) (Q .ret t h)) (mkT (T a)) (mkH 0 (B a))):SL P 0 x Q t h:=by
  have main:∀ m a,μ a = m → I a → SL P 0 x Q (mkT (T a)) (mkH 0 (B a)):=by
    intro m
    induction m using Nat.strongRecOn with
    | ind m ih =>
      intro a ha hi
      exact SL_step (step a hi (fun t h=>SL P 0 x Q t h) fun b hb hlt t' h' hw=>SL.weak hw (ih (μ b) (ha ▸ hlt) b rfl hb))
  exact SL.weak (Wk.mk (T a0) (B a0) src hT hB hI hfl) (main _ a0 rfl h0)

theorem bq_t {b:Bool}:(b == true) = b:=by cases b <;> rfl
theorem bq_f {b:Bool}:(b == false) = !b:=by cases b <;> rfl
def vA:=And.intro @V_cut (And.intro @V_seq (And.intro @V_skip (And.intro @V_ret (And.intro @V_exit (And.intro @V_cond (And.intro @V_blk (And.intro @V_loop (And.intro @V_reg (And.intro @V_regT (And.intro @VG_nil (And.intro @VG_op (And.intro @VG_callF (And.intro @VG_callV (And.intro @VG_if
  (And.intro @cvF_fn (And.intro @onX_normal (And.intro @onX_exit (And.intro @onX_ret (And.intro @endX_ret (And.intro @endX_normal (And.intro @res_nil (And.intro @res_tmp @res_cell))))))))))))))))))))))
def vR:=And.intro @VR'_callV @VR'_if
def vE:=And.intro @evK_o (And.intro @evK_c (And.intro @evsK_nil (And.intro @evsK_cons (And.intro @optK_none (And.intro @optK_some (And.intro @guardK_o (And.intro @dstK_none (And.intro @dstK_some (And.intro @unB_b (And.intro @unP_ptr (And.intro @unI_i (And.intro @unN_i (And.intro @when_if (And.intro @forceN_ev (And.intro @forceB_ev
  (And.intro @new_mk (And.intro @put_mk (And.intro @ld_ptr (And.intro @ld_pf (And.intro @lds_ptr (And.intro @lds_pf (And.intro @ldK_o (And.intro @ldsK_o (And.intro @mov_ptr (And.intro @mov_pf (And.intro @st_o (And.intro @stV_iff (And.intro @cut_iff (And.intro @cells_o (And.intro @ifK_and @ble_iff))))))))))))))))))))))))))))))
def vO:=And.intro @op_mov (And.intro @op_pick (And.intro @op_alloc (And.intro @op_box (And.intro @op_build (And.intro @op_buildS (And.intro @op_load1 (And.intro @op_loadN (And.intro @op_store (And.intro @op_nilChk (And.intro @op_bin (And.intro @op_eqB (And.intro @op_eqN (And.intro @op_eqA (And.intro @op_un (And.intro @op_cvInt (And.intro @op_cvStr (And.intro @op_s2b (And.intro @op_b2s
  (And.intro @op_fAddr (And.intro @op_fld (And.intro @op_iAddrA (And.intro @op_iAddrS (And.intro @op_idxA (And.intro @op_idxS (And.intro @op_slcS (And.intro @op_slcStr (And.intro @op_slcA (And.intro @op_ext (And.intro @op_mkF (And.intro @op_mkS (And.intro @op_len (And.intro @op_app (And.intro @op_appF (And.intro @op_copy (And.intro @op_min (And.intro @op_max (And.intro @op_clear (And.intro @op_mkM
  (And.intro @op_storeD (And.intro @op_appD (And.intro @sap_own (And.intro @sap_sl (And.intro @sap_fz (And.intro @sap_nils (And.intro @sap_e0 (And.intro @op_cap (And.intro @op_appZ (And.intro @op_lookM @op_updM))))))))))))))))))))))))))))))))))))))))))))))))
def vB:=And.intro @bin_shr (And.intro @bin_shl (And.intro @bin_lss (And.intro @bin_gtr (And.intro @bin_geq (And.intro @bin_leq (And.intro @bin_eql (And.intro @bin_neq (And.intro @bin_add (And.intro @bin_sub (And.intro @bin_mul (And.intro @bin_or (And.intro @bin_and (And.intro @bin_xor (And.intro @bin_clr (And.intro @bin_seql (And.intro @bin_sneq (And.intro @bin_sadd (And.intro @bin_slss (And.intro @bin_sgeq (And.intro @bin_sleq (And.intro @bin_sgtr (And.intro @un_not (And.intro @un_neg @cv_i)))))))))))))))))))))))
def vF:=And.intro @fld_none (And.intro @fld_some (And.intro @ix_sl (And.intro @ix_fz (And.intro @ix_own (And.intro @isRow_sl (And.intro @isRow_fz (And.intro @isRow_own (And.intro @bd_none (And.intro @bd_some (And.intro @bnds_lo (And.intro @bnds_hi (And.intro @bnds_mx (And.intro @sl_nils (And.intro @sl_e0 (And.intro @sl_fz (And.intro @sl_slF (And.intro @sl_slT (And.intro @sl_own (And.intro @apz_sl (And.intro @esz_false (And.intro @esz_true (And.intro @ln_nils (And.intro @ln_e0 (And.intro @ln_nz (And.intro @ln_fz (And.intro @ln_own (And.intro @ln_sl (And.intro @ln_s
  (And.intro @clr_nils (And.intro @clr_sl (And.intro @apart_nil (And.intro @apart_cons (And.intro @ne_ptr (And.intro @ne_pf (And.intro @cp_nils (And.intro @cp_e0 (And.intro @cp_sl (And.intro @fill_nil (And.intro @fill_cons (And.intro @copy_nils (And.intro @copy_sl (And.intro @src_nils (And.intro @src_e0 (And.intro @src_nz (And.intro @src_sl (And.intro @src_own (And.intro @src_fz (And.intro @src_s (And.intro @app_nils (And.intro @app_e0 (And.intro @app_own (And.intro @app_sl (And.intro @app_fz
  (And.intro @nil_nilp (And.intro @nil_ptr (And.intro @nil_pf (And.intro @nil_nils (And.intro @nil_nz (And.intro @nil_sl (And.intro @nil_fz (And.intro @nil_own (And.intro @nil_nilf (And.intro @nil_fn (And.intro @nil_nili (And.intro @nil_ifc (And.intro @eqs_nil (And.intro @eqs_cons (And.intro @eq_i (And.intro @eq_s @eq_b)))))))))))))))))))))))))))))))))))))))))))))))))))))))))))))))))))))
def vM:=And.intro @key_s (And.intro @key_i (And.intro @ismap_nil (And.intro @ismap_s (And.intro @ismap_i (And.intro @mapAt_map (And.intro @map_o (And.intro @find_nil (And.intro @find_s (And.intro @find_i (And.intro @upd_nil (And.intro @upd_s (And.intro @upd_i (And.intro @ans_none (And.intro @ans_noneT (And.intro @ans_some (And.intro @ans_someT (And.intro @lk_nil (And.intro @lk_map @up_map))))))))))))))))))
def vC:=And.intro @cells_nil (And.intro @cells_cons (And.intro @cell_b (And.intro @cell_i (And.intro @cell_s (And.intro @cell_nilp (And.intro @cell_ptr (And.intro @cell_nils (And.intro @cell_sl (And.intro @cell_nilf (And.intro @cell_fn (And.intro @cell_nili (And.intro @cell_ifc (And.intro @cell_nilm (And.intro @cell_map (And.intro @cell_fz (And.intro @cell_pf (And.intro @cell_e0 (And.intro @cell_nz @cell_own))))))))))))))))))
def vP:=And.intro @mark_true (And.intro @evO_some (And.intro @evA_iff (And.intro @evL_iff (And.intro @evN_iff (And.intro @evT_iff (And.intro @evB_some (And.intro @evC_some (And.intro @ifK_true (And.intro @cellAt_cells (And.intro @up_mk (And.intro @down_mk (And.intro @bq_t (And.intro @bq_f @rec_if)))))))))))))
def vW:=And.intro @nv_undef (And.intro @nv_b (And.intro @nv_i (And.intro @nv_s (And.intro @nv_nilp (And.intro @nv_nils (And.intro @nv_nilf (And.intro @nv_nili (And.intro @nv_nilm (And.intro @nv_e0 (And.intro @nv_nz (And.intro @nv_e0z (And.intro @nv_e0own (And.intro @nv_slz (And.intro @nv_fz (And.intro @nv_pf (And.intro @nv_nilz (And.intro @nv_ptr (And.intro @nv_sl (And.intro @nv_own (And.intro @nv_nilown (And.intro @nv_map (And.intro @nvs_nil (And.intro @nvs_cons (And.intro @nv_agg (And.intro @nv_tup (And.intro @nv_fn (And.intro @nv_ifc
  (And.intro @tws_nil (And.intro @tws_cons (And.intro @bws_nil (And.intro @bws_cons (And.intro @bw_new (And.intro @bw_dead (And.intro @bw_old (And.intro @rl_0 @rl_s)))))))))))))))))))))))))))))))))))
def vZ:=And.intro @fr_undef (And.intro @fr_b (And.intro @fr_i (And.intro @fr_s (And.intro @fr_nilp (And.intro @fr_nils (And.intro @fr_nilf (And.intro @fr_nili (And.intro @fr_nilm (And.intro @fr_e0 (And.intro @fr_nz (And.intro @fr_e0z (And.intro @fr_fz (And.intro @fr_pf (And.intro @fr_nilz (And.intro @frs_nil (And.intro @frs_cons (And.intro @fr_agg (And.intro @fr_tup (And.intro @frz_fn (And.intro @fr_ptr (And.intro @fr_ifc @fr_own)))))))))))))))))))))
end Go.Kc
end
section
/- Calls whose arguments are lent; calls that answer rows of one's own. No condition. -/
namespace Go.Kc
variable {P:Program}

mutual
def flat:AV → Bool
  | .ptr _ _=>false
  | .sl _ _ _ _ _=>false
  | .map _=>false
  | .own _ _=>false
  | .fz _ _=>false
  | .pf _ _=>false
  | .sym _=>false
  | .fn _ a c=>flats a && flats c
  | .ifc _ v=>flat v
  | .agg cs=>flats cs
  | .tup cs=>flats cs
  | .undef=>true | .b _=>true | .i _ _=>true | .s _=>true | .nilp=>true | .nils=>true | .nilf=>true | .nili=>true | .nilm=>true | .e0=>true | .nz=>true
def flats:List AV → Bool
  | []=>true
  | v :: vs=>flat v && flats vs
end
mutual
theorem VR.flat {ρ ρ':Ren}:∀ {a:AV} {v:Value},VR σ0 ρ a v → Kc.flat a = true → VR σ0 ρ' a v
  | _,_,.undef v,_=>.undef v
  | _,_,.b x,_=>.b x
  | _,_,.i k n,_=>.i k n
  | _,_,.s x,_=>.s x
  | _,_,.nilp,_=>.nilp
  | _,_,.ptr b o L h,hc=>by simp [Kc.flat] at hc
  | _,_,.nils,_=>.nils
  | _,_,.sl b o len cap c loose L h hc,hh=>by simp [Kc.flat] at hh
  | _,_,.slz b o x l L h,hh=>by simp [Kc.flat] at hh
  | _,_,.nilf,_=>.nilf
  | _,_,.fn f first cap first' cap' h1 h2,hc=>by
    simp only [Kc.flat,Bool.and_eq_true] at hc
    exact .fn _ _ _ _ _ (h1.flat hc.1) (h2.flat hc.2)
  | _,_,.nili,_=>.nili
  | _,_,.ifc t v v' h,hc=>by simp only [Kc.flat] at hc; exact .ifc _ _ _ (h.flat hc)
  | _,_,.agg cs cs' h,hc=>by simp only [Kc.flat] at hc; exact .agg _ _ (h.flat hc)
  | _,_,.tup cs cs' h,hc=>by simp only [Kc.flat] at hc; exact .tup _ _ (h.flat hc)
  | _,_,.nilm,_=>.nilm
  | _,_,.map b L h h0,hc=>by simp [Kc.flat] at hc
  | _,_,.sym j,hc=>by simp [Kc.flat] at hc
  | _,_,.fz n off c cs k arr hn h hs,hc=>by simp [Kc.flat] at hc
  | _,_,.fz0 a,hc=>by simp [Kc.flat] at hc
  | _,_,.pf off base cs k arr h hs,hc=>by simp [Kc.flat] at hc
  | _,_,.e0 a,_=>.e0 a
  | _,_,.nz a c,_=>.nz a c
  | _,_,.own0 b a hb,hc=>by simp [Kc.flat] at hc
  | _,_,.own b n c L h hn hc',hc=>by simp [Kc.flat] at hc
theorem VRs.flat {ρ ρ':Ren}:∀ {a:List AV} {v:List Value},VRs σ0 ρ a v → flats a = true → VRs σ0 ρ' a v
  | _,_,.nil,_=>.nil
  | _,_,.cons v vs v' vs' h hs,hc=>by
    simp only [flats,Bool.and_eq_true] at hc
    exact .cons _ _ _ _ (h.flat hc.1) (hs.flat hc.2)
end
theorem Rel.bare {ρ:Ren} {B:Nat → Prop} {h:Hp} {w:World} (r:Rel σ0 ρ B h w):Rel σ0 ⟨fun _=>none,frzOf ρ h w,0⟩ (low w.heap.size) H0 w :=
  ⟨(fun _ _ hb=>by cases hb),(fun _ _ _ _ _ _ hb=>by cases hb),(fun _ _ _ hb=>by cases hb),(fun _ _ _ _ _ hb=>by cases hb),(fun _ _ _ hb=>by cases hb),(fun _ _ _ _ _ hb=>by cases hb),(fun _ _ hb=>by cases hb),(fun _ h=>h),
   (fun k arr hk=>⟨by
      rcases frzOf_some hk with hk | ⟨hk,_⟩
      · exact (r.frz k arr hk).1
      · exact hk,fun _ _ _ hb=>by cases hb⟩),Nat.le_refl _⟩
theorem Pure.lend {f:Nat} {vs vs':List AV} {v:AV} {h:Hp} {k:AV → Hp → Prop} (hp:Pure P f vs' v) (hf:Frzs h vs vs') (hv:flat v = true) (hk:k v h):SC P f vs h k:=by
  have hp0:=hp H0 (fun v' h'=>v' = v ∧ h' = H0) ⟨rfl,rfl⟩
  refine ⟨hp0.1,fun ρ B w args r ha=>?_⟩
  have hcr:=hf.ok r ha
  refine CallsX.mono (hp0.2 ⟨fun _=>none,frzOf ρ h w,0⟩ (low w.heap.size) w args r.bare (CRs.vr (ρ:=⟨fun _=>none,frzOf ρ h w,0⟩) hcr)) ?_
  rintro e w' ⟨v0,v',h',ρ',rfl,⟨rfl,rfl⟩,g2,g3,g4⟩
  refine ⟨v0,v',h,ρ,rfl,hk,g2.flat hv,?_,⟨fun _ _=>rfl,Nat.le_refl _,rfl,fun _ _ _=>rfl,fun k hk=>g4.pres k (r.base _ hk),g4.wle,g4.io,fun _ _ h=>h,fun _ _ h=>.inl h,Nat.le_refl _⟩⟩
  have:=r.frz' (φ:=ρ.frz) g4.pres g4.wle (fun _ _ h=>h) (fun _ _ h=>.inl h) (fun k a hk=>by
    obtain ⟨ty,fz,h1⟩:=(r.frz k a hk).1
    refine ⟨ty,fz,?_⟩
    rw [g4.pres k (Array.getElem?_eq_some_iff.1 h1).1]; exact h1)
  exact this
mutual
def shv (m:Nat):AV → AV
  | .ptr b o=>.ptr (b + m) o
  | .sl b o n c l=>.sl (b + m) o n c l
  | .map b=>.map (b + m)
  | .own b n=>.own (b + m) n
  | .fn f a c=>.fn f (shvs m a) (shvs m c)
  | .ifc t v=>.ifc t (shv m v)
  | .agg cs=>.agg (shvs m cs)
  | .tup cs=>.tup (shvs m cs)
  | v=>v
def shvs (m:Nat):List AV → List AV
  | []=>[]
  | v :: vs=>shv m v :: shvs m vs
end
theorem shvs_get {m:Nat}:∀ {vs:List AV} {j:Nat},(shvs m vs)[j]? = (vs[j]?).map (shv m)
  | [],j=>by simp [shvs]
  | v :: vs,0=>by simp [shvs]
  | v :: vs,j + 1=>by simpa [shvs] using shvs_get (vs:=vs) (j:=j)
theorem shvs_length {m:Nat}:∀ {vs:List AV},(shvs m vs).length = vs.length
  | []=>rfl
  | v :: vs=>by simp [shvs,shvs_length (vs:=vs)]
mutual
theorem shv_clo {m:Nat}:∀ {v:AV},clo v = true → shv m v = v
  | .ptr _ _,h=>by simp [clo] at h
  | .sl _ _ _ _ _,h=>by simp [clo] at h
  | .map _,h=>by simp [clo] at h
  | .own _ _,h=>by simp [clo] at h
  | .fn f a c,h=>by
    simp only [clo,Bool.and_eq_true] at h
    simp only [shv,shvs_clo h.1,shvs_clo h.2]
  | .ifc t v,h=>by
    simp only [clo] at h
    simp only [shv,shv_clo h]
  | .agg cs,h=>by
    simp only [clo] at h
    simp only [shv,shvs_clo h]
  | .tup cs,h=>by
    simp only [clo] at h
    simp only [shv,shvs_clo h]
  | .undef,_=>rfl
  | .b _,_=>rfl
  | .i _ _,_=>rfl
  | .s _,_=>rfl
  | .nilp,_=>rfl
  | .nils,_=>rfl
  | .nilf,_=>rfl
  | .nili,_=>rfl
  | .nilm,_=>rfl
  | .sym _,h=>by simp [clo] at h
  | .fz _ _,_=>rfl
  | .pf _ _,_=>rfl
  | .e0,_=>rfl
  | .nz,_=>rfl
theorem shvs_clo {m:Nat}:∀ {vs:List AV},clos vs = true → shvs m vs = vs
  | [],_=>rfl
  | v :: vs,h=>by
    simp only [clos,Bool.and_eq_true] at h
    simp only [shvs,shv_clo h.1,shvs_clo h.2]
end
def she (m:Nat) (es:List (AV × AV)):List (AV × AV):=es.map fun e=>(shv m e.1,shv m e.2)
theorem she_nil {m:Nat}:she m [] = []:=rfl
theorem she_cons {m:Nat} {a b:AV} {es:List (AV × AV)}:she m ((a,b) :: es) = (shv m a,shv m b) :: she m es:=rfl
def shb (m:Nat):Blk → Blk
  | .cells e w a cs=>.cells e w a (shvs m cs)
  | .dead=>.dead
  | .map es=>.map (she m es)
noncomputable def pushs (h:Hp):List Blk → Hp
  | []=>h
  | x :: xs=>pushs (h.push x) xs
theorem pushs_sz:∀ {bs:List Blk} {h:Hp},(pushs h bs).sz = h.sz + bs.length
  | [],_=>rfl
  | x :: xs,h=>by
    show (pushs (h.push x) xs).sz = _
    rw [pushs_sz]; simp [Hp.push]; omega
theorem pushs_fl:∀ {bs:List Blk} {h:Hp},(pushs h bs).fl = h.fl
  | [],_=>rfl
  | x :: xs,h=>by
    show (pushs (h.push x) xs).fl = _
    rw [pushs_fl]; rfl
theorem pushs_get:∀ {bs:List Blk} {h:Hp} {b:Nat},(pushs h bs).tr.get b = if b < h.sz then h.tr.get b else if b < h.sz + bs.length then bs[b - h.sz]? else h.tr.get b
  | [],h,b=>by simp [pushs]; intro h1 h2; omega
  | x :: xs,h,b=>by
    show (pushs (h.push x) xs).tr.get b = _
    rw [pushs_get]
    simp only [Hp.push,Tr.get_set,List.length_cons]
    by_cases h1:b < h.sz
    · rw [if_pos (by omega),if_neg (by omega),if_pos h1]
    · rw [if_neg h1]
      by_cases h2:b = h.sz
      · subst h2; rw [if_pos (by omega),if_pos rfl,if_pos (by omega)]; simp
      · rw [if_neg (by omega)]
        by_cases h3:b < h.sz + (xs.length + 1)
        · rw [if_pos (by omega),if_pos h3]
          rw [show b - h.sz = (b - (h.sz + 1)) + 1 from by omega]; simp
        · rw [if_neg (by omega),if_neg h3,if_neg h2]
def Ren.join (ρ ρ2:Ren) (m l:Nat):Ren:=⟨fun b=>if b < m then ρ b else ρ2 (b - m),ρ2.frz,m + l⟩
theorem join_lo {ρ ρ2:Ren} {m l b:Nat} (h:b < m):ρ.join ρ2 m l b = ρ b:=by simp only [Ren.join]; rw [if_pos h]
theorem join_hi {ρ ρ2:Ren} {m l b:Nat}:ρ.join ρ2 m l (b + m) = ρ2 b:=by simp only [Ren.join]; rw [if_neg (by omega),Nat.add_sub_cancel]
mutual
theorem VR.sh {ρ ρ2:Ren} {m l:Nat} (hl:ρ2.n ≤ l):∀ {v:AV} {x:Value},VR σ0 ρ2 v x → VR σ0 (ρ.join ρ2 m l) (shv m v) x
  | _,_,.undef v=>.undef v
  | _,_,.b x=>.b x
  | _,_,.i k n=>.i k n
  | _,_,.s x=>.s x
  | _,_,.nilp=>.nilp
  | _,_,.ptr b o L h=>.ptr _ _ L (by rw [join_hi]; exact h)
  | _,_,.nils=>.nils
  | _,_,.sl b o len cap c loose L h hc=>.sl _ _ _ _ _ _ L (by rw [join_hi]; exact h) hc
  | _,_,.slz b o x l' L h=>.slz _ _ _ _ L (by rw [join_hi]; exact h)
  | _,_,.nilf=>.nilf
  | _,_,.fn f first cap first' cap' h1 h2=>.fn _ _ _ _ _ (VRs.sh hl h1) (VRs.sh hl h2)
  | _,_,.nili=>.nili
  | _,_,.ifc t v v' h=>.ifc _ _ _ (VR.sh hl h)
  | _,_,.agg cs cs' h=>.agg _ _ (VRs.sh hl h)
  | _,_,.tup cs cs' h=>.tup _ _ (VRs.sh hl h)
  | _,_,.nilm=>.nilm
  | _,_,.map b L h h0=>.map _ L (by rw [join_hi]; exact h) h0
  | _,_,.sym j=>.sym j
  | _,_,.fz n off c cs k arr hn h hs=>.fz n off c cs k arr hn h hs
  | _,_,.fz0 a=>.fz0 a
  | _,_,.pf off base cs k arr h hs=>.pf off base cs k arr h hs
  | _,_,.e0 a=>.e0 a
  | _,_,.nz a c=>.nz a c
  | _,_,.own0 b a hb=>.own0 _ _ (by show b + m < m + l; omega)
  | _,_,.own b n c L h hn hc'=>.own _ _ _ L (by rw [join_hi]; exact h) hn hc'
theorem VRs.sh {ρ ρ2:Ren} {m l:Nat} (hl:ρ2.n ≤ l):∀ {v:List AV} {x:List Value},VRs σ0 ρ2 v x → VRs σ0 (ρ.join ρ2 m l) (shvs m v) x
  | _,_,.nil=>.nil
  | _,_,.cons v vs v' vs' h hs=>.cons _ _ _ _ (VR.sh hl h) (VRs.sh hl hs)
end
theorem ObjR.sh {ρ ρ2:Ren} {m l:Nat} (hl:ρ2.n ≤ l) {es:List (AV × AV)} {o:Obj} (h:ObjR σ0 ρ2 es o):ObjR σ0 (ρ.join ρ2 m l) (she m es) o:=by
  rcases h with ⟨h0,vs,clk,h1,h2,h3⟩ | ⟨a,n,rfl,h2⟩
  · refine .inl ⟨fun e he=>?_,vs,clk,h1,by simp [she,h2],fun j e he=>?_⟩
    · cases es with
      | nil=>simp [she] at he
      | cons e0 es =>
        simp [she] at he
        subst he
        have:=h0 e0 rfl
        cases e0 with
        | mk k v=>cases k <;> first | (simp [shv]; done) | exact absurd rfl this
    · simp only [she,List.getElem?_map] at he
      cases hj:es[j]? with
      | none=>rw [hj] at he; simp at he
      | some e0 =>
        rw [hj] at he
        simp at he
        subst he
        obtain ⟨v,g1,g2,g3⟩:=h3 j e0 hj
        exact ⟨v,g1,VR.sh hl g2,VR.sh hl g3⟩
  · exact .inr ⟨a,n,rfl,h2⟩
theorem Rel.joinH {ρ ρ2:Ren} {B:Nat → Prop} {h:Hp} {w w1:World} {bs:List Blk} (r:Rel σ0 ρ B h w) (r2:Rel σ0 ρ2 (low w.heap.size) (mkH 0 bs) w1) (hp:∀ k,k < w.heap.size → w1.heap[k]? = w.heap[k]?) (hw:w.heap.size ≤ w1.heap.size)
    (f1:∀ k a,ρ.frz k = some a → ρ2.frz k = some a) (f2:∀ k a,ρ2.frz k = some a → ρ.frz k = some a ∨ w.heap.size ≤ k) :
    Rel σ0 (ρ.join ρ2 h.sz bs.length) B (pushs h (bs.map (shb h.sz))) w1:=by
  have r1:Rel σ0 ⟨ρ.loc,ρ2.frz,ρ.n⟩ B h w1:=r.frz' hp hw f1 f2 (fun k a hk=>(r2.frz k a hk).1)
  have n2:ρ2.n ≤ bs.length:=r2.dn
  have le1:Ren.le ⟨ρ.loc,ρ2.frz,ρ.n⟩ (ρ.join ρ2 h.sz bs.length) :=
    ⟨fun b L hb=>by rw [join_lo (r.dom b L hb)]; exact hb,fun _ _ h=>h,Nat.le_trans r.dn (Nat.le_add_right _ _)⟩
  -- a block: old,or new
  have split:∀ b L,ρ.join ρ2 h.sz bs.length b = some L → (b < h.sz ∧ ρ b = some L ∧ (pushs h (bs.map (shb h.sz))).tr.get b = h.tr.get b) ∨
      ∃ c,b = c + h.sz ∧ ρ2 c = some L ∧ (pushs h (bs.map (shb h.sz))).tr.get b = ((mkH 0 bs).tr.get c).map (shb h.sz) ∧ w.heap.size ≤ L.blk:=by
    intro b L hb
    by_cases hlt:b < h.sz
    · rw [join_lo hlt] at hb
      refine .inl ⟨hlt,hb,?_⟩
      rw [pushs_get,if_pos hlt]
    · obtain ⟨c,rfl⟩:∃ c,b = c + h.sz:=⟨b - h.sz,by omega⟩
      rw [join_hi] at hb
      have hc:c < bs.length:=r2.dom c L hb
      refine .inr ⟨c,rfl,hb,?_,Nat.not_lt.1 (r2.flr c L hb (Nat.zero_le _))⟩
      rw [pushs_get,if_neg hlt,if_pos (by simp; omega),mkH_get,Nat.add_sub_cancel,List.getElem?_map]
  have oldlt:∀ b L x,ρ b = some L → h.tr.get b = some x → x ≠ .dead → L.blk < w.heap.size:=fun b L x h1 h2 h3=>r.blk_lt b L h1 x h2 h3
  have shd:∀ {x y:Blk},(some x).map (shb h.sz) = some y → y ≠ .dead → x ≠ .dead:=by
    intro x y h1 h2 h3; subst h3; simp [shb] at h1; exact h2 h1.symm
  have shc:∀ {o:Option Blk} {e:Nat} {w a:Bool} {cs:List AV},o.map (shb h.sz) = some (.cells e w a cs) → ∃ cs0,o = some (.cells e w a cs0) ∧ cs = shvs h.sz cs0:=by
    intro o e w a cs ho
    cases o with
    | none=>simp at ho
    | some x =>
      cases x with
      | cells e' w' a' cs'=>simp [shb] at ho; obtain ⟨rfl,rfl,rfl,rfl⟩:=ho; exact ⟨_,rfl,rfl⟩
      | dead=>simp [shb] at ho
      | map es=>simp [shb] at ho
  have shm:∀ {o:Option Blk} {es:List (AV × AV)},o.map (shb h.sz) = some (.map es) → ∃ es0,o = some (.map es0) ∧ es = she h.sz es0:=by
    intro o es ho
    cases o with
    | none=>simp at ho
    | some x =>
      cases x with
      | cells e' w' a' cs'=>simp [shb] at ho
      | dead=>simp [shb] at ho
      | map es'=>simp [shb] at ho; exact ⟨es',rfl,ho.symm⟩
  have shn:∀ {o:Option Blk} {y:Blk},o.map (shb h.sz) = some y → y ≠ .dead → ∃ x,o = some x ∧ x ≠ .dead:=by
    intro o y ho hy
    cases o with
    | none=>simp at ho
    | some x=>exact ⟨x,rfl,shd ho hy⟩
  refine ⟨fun b L hb=>?_,?_,?_,?_,?_,?_,?_,base_le r.base hw,?_,?_⟩
  · rw [pushs_sz,List.length_map]
    rcases split b L hb with ⟨h1,_⟩ | ⟨c,rfl,h1,_⟩
    · omega
    · have:c < bs.length:=r2.dom c L h1
      omega
  · intro b L e wf af cs hb hg
    rcases split b L hb with ⟨h1,h2,h3⟩ | ⟨c,rfl,h2,h3,_⟩
    · rw [h3] at hg
      obtain ⟨q1,c,ty,fz,q2,q3,q4,q5,q6⟩:=r1.cells b L e wf af cs h2 hg
      exact ⟨q1,c,ty,fz,q2,q3,q4,fun j v hv=>let ⟨v',g7,g8⟩:=q5 j v hv; ⟨v',g7,g8.mono le1⟩,q6⟩
    · rw [h3] at hg
      obtain ⟨cs0,g1,rfl⟩:=shc hg
      obtain ⟨q1,c',ty,fz,q2,q3,q4,q5,q6⟩:=r2.cells c L e wf af cs0 h2 g1
      refine ⟨q1,c',ty,fz,q2,q3,by rw [shvs_length]; exact q4,fun j v hv=>?_,q6⟩
      rw [shvs_get] at hv
      cases hj:cs0[j]? with
      | none=>rw [hj] at hv; simp at hv
      | some v0 =>
        rw [hj] at hv; simp at hv; subst hv
        obtain ⟨v',g7,g8⟩:=q5 j v0 hj
        exact ⟨v',g7,g8.sh n2⟩
  · intro b L es hb hg
    rcases split b L hb with ⟨h1,h2,h3⟩ | ⟨c,rfl,h2,h3,_⟩
    · rw [h3] at hg
      obtain ⟨q1,o,q2,q3⟩:=r1.maps b L es h2 hg
      exact ⟨q1,o,q2,q3.mono le1⟩
    · rw [h3] at hg
      obtain ⟨es0,g1,rfl⟩:=shm hg
      obtain ⟨q1,o,q2,q3⟩:=r2.maps c L es0 h2 g1
      exact ⟨q1,o,q2,q3.sh n2⟩
  · intro b L e af cs hb hg b' L' x hb' hx hd he
    rcases split b L hb with ⟨h1,h2,h3⟩ | ⟨c,rfl,h2,h3,h4⟩ <;> rcases split b' L' hb' with ⟨i1,i2,i3⟩ | ⟨c',rfl,i2,i3,i4⟩
    · rw [h3] at hg; rw [i3] at hx
      exact r.excl b L e af cs h2 hg b' L' x i2 hx hd he
    · rw [h3] at hg
      have:=oldlt b L _ h2 hg (by simp)
      omega
    · rw [i3] at hx
      have:=oldlt b' L' _ i2 hx hd
      omega
    · rw [h3] at hg; rw [i3] at hx
      obtain ⟨cs0,g1,rfl⟩:=shc hg
      obtain ⟨x0,g2,g3⟩:=shn hx hd
      rw [r2.excl c L e af cs0 h2 g1 c' L' x0 i2 g2 g3 he]
  · intro b L es hb hg b' L' x hb' hx hd he
    rcases split b L hb with ⟨h1,h2,h3⟩ | ⟨c,rfl,h2,h3,h4⟩
    · rw [h3] at hg
      rcases split b' L' hb' with ⟨i1,i2,i3⟩ | ⟨c',rfl,i2,i3,i4⟩
      · rw [i3] at hx
        exact r.exclm b L es h2 hg b' L' x i2 hx hd he
      · have:=oldlt b L _ h2 hg (by simp)
        omega
    · rw [h3] at hg
      obtain ⟨es0,g1,rfl⟩:=shm hg
      rcases split b' L' hb' with ⟨i1,i2,i3⟩ | ⟨c',rfl,i2,i3,i4⟩
      · rw [i3] at hx
        have:=oldlt b' L' _ i2 hx hd
        omega
      · rw [i3] at hx
        obtain ⟨x0,g2,g3⟩:=shn hx hd
        rw [r2.exclm c L es0 h2 g1 c' L' x0 i2 g2 g3 he]
  · intro b L e wf cs hb hg b' L' e' wf' af' cs' hb' hx he
    rcases split b L hb with ⟨h1,h2,h3⟩ | ⟨c,rfl,h2,h3,h4⟩ <;> rcases split b' L' hb' with ⟨i1,i2,i3⟩ | ⟨c',rfl,i2,i3,i4⟩
    · rw [h3] at hg; rw [i3] at hx
      exact r.app b L e wf cs h2 hg b' L' e' wf' af' cs' i2 hx he
    · rw [h3] at hg
      have:=oldlt b L _ h2 hg (by simp)
      omega
    · rw [i3] at hx
      have:=oldlt b' L' _ i2 hx (by simp)
      omega
    · rw [h3] at hg; rw [i3] at hx
      obtain ⟨cs0,g1,rfl⟩:=shc hg
      obtain ⟨cs1,g2,rfl⟩:=shc hx
      have q:=r2.app c L e wf cs0 h2 g1 c' L' e' wf' af' cs1 i2 g2 he
      rw [shvs_length,shvs_length]
      exact ⟨q.1,fun hh=>by rw [q.2 hh]⟩
  · intro b L hb hf
    rw [pushs_fl] at hf
    rcases split b L hb with ⟨h1,h2,h3⟩ | ⟨c,rfl,h2,h3,h4⟩
    · exact r.flr b L h2 hf
    · exact not_base r.base h4
  · intro k arr hk
    refine ⟨(r2.frz k arr hk).1,fun b L x hb hx hd=>?_⟩
    rcases split b L hb with ⟨h1,h2,h3⟩ | ⟨c,rfl,h2,h3,h4⟩
    · rw [h3] at hx
      exact (r1.frz k arr hk).2 b L x h2 hx hd
    · rw [h3] at hx
      obtain ⟨x0,g2,g3⟩:=shn hx hd
      exact (r2.frz k arr hk).2 c L x0 h2 g2 g3
  · show h.sz + bs.length ≤ _
    rw [pushs_sz,List.length_map]; exact Nat.le_refl _
def Own (P:Program) (f:Nat) (vs:List AV) (v:AV) (bs:List Blk):Prop :=
  ∀ (h:Hp) (k:AV → Hp → Prop),k (shv h.sz v) (pushs h (bs.map (shb h.sz))) → SC P f vs h k
def OwnZ (v:AV) (bs:List Blk) (v':AV) (h':Hp):Prop:=h'.fl = 0 → ∃ src:List Nat,NV (rl src h'.sz) bs.length v' v ∧ BWs h' (rl src h'.sz) bs.length src bs ∧ (src.filter fun b=>decide (b < h'.sz)).Nodup
theorem Own.of_SC {f:Nat} {vs:List AV} {v:AV} {bs:List Blk} (hcl:clos vs = true) (hs:SC P f vs H0 (OwnZ v bs)):Own P f vs v bs:=by
  intro h k hk
  refine ⟨hs.1,fun ρ B w args r ha=>?_⟩
  have hcr:=ha.crs hcl
  refine CallsX.mono (hs.2 ⟨fun _=>none,ρ.frz,0⟩ (low w.heap.size) w args r.empty (CRs.vr (ρ:=⟨fun _=>none,ρ.frz,0⟩) hcr)) ?_
  rintro e w1 ⟨v0,v',h1,ρ1,rfl,g1,g2,g3,g4⟩
  obtain ⟨src,s1,s2,s3⟩:=g1 g4.fl
  have hw:Wk 0 (mkT [(0,v0)]) h1 (mkT [(0,v)]) (mkH 0 bs):=Wk.mk [(0,v)] bs src ⟨⟨v0,by simp [mkT,Tr.get_set],s1⟩,trivial⟩ s2 s3 g4.fl
  obtain ⟨ρ2,t2,r2,k2⟩:=hw ρ1 (low w.heap.size) w1 #[v'] (fun j x hj=>by
    have:=mkT_get hj
    simp at this
    obtain ⟨rfl,rfl⟩:=this
    exact ⟨by simp,by simpa using g2⟩) g3
  have hv2:VR σ0 ρ2 v v':=by
    have:=(t2 0 v (by simp [mkT,Tr.get_set])).2
    simpa using this
  have f1:∀ k a,ρ.frz k = some a → ρ2.frz k = some a:=fun k a hk=>k2.frz k a (g4.frz k a hk)
  have f2:∀ k a,ρ2.frz k = some a → ρ.frz k = some a ∨ w.heap.size ≤ k:=fun k a hk=>(k2.fnew k a hk).elim (fun hk=>(g4.fnew k a hk).imp id Nat.not_lt.1) (fun hk=>.inr (Nat.not_lt.1 hk))
  refine ⟨_,v',_,ρ.join ρ2 h.sz bs.length,rfl,hk,hv2.sh r2.dn,Rel.joinH r r2 g4.pres g4.wle f1 f2,?_⟩
  refine ⟨fun b hb=>join_lo hb,by rw [pushs_sz]; omega,pushs_fl,fun b _ hb=>by rw [pushs_get,if_pos hb],fun k hk=>g4.pres k (r.base _ hk),g4.wle,g4.io,f1,fun k a hk=>(f2 k a hk).imp id (not_base r.base),?_⟩
  exact Nat.le_trans r.dn (Nat.le_add_right _ _)
theorem Own.mk {f:Nat} {i:IFn} {vs:List AV} {v:AV} {bs:List Blk} (hc:chkFn P f i = true) (hcl:clos vs = true) (hV:V P 0 i.body (endX i.res (OwnZ v bs)) (argsT vs 0 .leaf) H0):Own P f vs v bs :=
  Own.of_SC hcl (SC.mk hc (V_sound hV))
def PC (P:Program):CallsB:=fun f vs h k=>(∃ v,Pure P f vs v ∧ k v h) ∨ (∃ vs' v,Pure P f vs' v ∧ Frzs h vs vs' ∧ flat v = true ∧ k v h) ∨ ∃ v bs,Own P f vs v bs ∧ k (shv h.sz v) (pushs h (bs.map (shb h.sz)))
@[congr] theorem PC_congr {f:Nat} {vs vs':List AV} {h:Hp} {k:AV → Hp → Prop} {mk:Prop} (_:Mark = mk) (h':vs = vs'):PC P f vs h k = PC P f vs' h k:=by rw [h']
theorem PC_l:LC (PC P):=by
  rintro f vs h k (⟨v,h1,h2⟩ | ⟨vs',v,h1,h2,h3,h4⟩ | ⟨v,bs,h1,h2⟩)
  · exact ⟨v,_,h2,fun _ h3=>.inl ⟨v,h1,h3⟩⟩
  · exact ⟨v,_,h4,fun _ h5=>.inr (.inl ⟨vs',v,h1,h2,h3,h5⟩)⟩
  · exact ⟨_,_,h2,fun _ h3=>.inr (.inr ⟨v,bs,h1,h3⟩)⟩
theorem PC_sound:SoundC P σ0 (PC P):=by
  rintro f vs h k (⟨v,h1,h2⟩ | ⟨vs',v,h1,h2,h3,h4⟩ | ⟨v,bs,h1,h2⟩)
  · exact h1 h k h2
  · exact Pure.lend h1 h2 h3 h4
  · exact h1 h k h2
theorem cvF_pc {f:Nat} {a c vs:List AV} {h:Hp} {k:AV → Hp → Prop}:cvF (PC P) (.fn f a c) vs h k ↔ PC P f (a ++ (vs ++ c)) h k:=Iff.rfl
theorem pc_callF {dst:Option Nat} {f:Nat} {args:List O} {ops:List ROp} {Q:Tr AV → Hp → Prop} {t:Tr AV} {s fl:Nat} {tr:Tr Blk}:VR' (PC P) (⟨dst,.callF f args,none⟩ :: ops) Q t ⟨s,fl,tr⟩ ↔ evsK t args (fun vs=>PC P f vs ⟨s,s,tr⟩ (fun v h'=>dstK t dst v (fun t'=>VR' (PC P) ops Q t' (h'.down fl)))):=VR'_callF
theorem VD_pc {ops:List ROp} {Q:Tr AV → Hp → Prop} {t:Tr AV} {h:Hp} (hr:VR' (PC P) ops Q t h):VD P ops Q t h:=VD_of PC_l PC_sound hr
theorem Pure.pc {f:Nat} {vs:List AV} {v:AV} {h:Hp} {k:AV → Hp → Prop} (hp:Pure P f vs v) (hk:k v h):PC P f vs h k:=.inl ⟨v,hp,hk⟩
theorem Own.pc {f:Nat} {vs:List AV} {v:AV} {bs:List Blk} {h:Hp} {k:AV → Hp → Prop} (hp:Own P f vs v bs) (hk:k (shv h.sz v) (pushs h (bs.map (shb h.sz)))):PC P f vs h k:=.inr (.inr ⟨v,bs,hp,hk⟩)
theorem Own.sc {f:Nat} {vs:List AV} {v:AV} {bs:List Blk} {h:Hp} {k:AV → Hp → Prop} (hp:Own P f vs v bs) (hk:k (shv h.sz v) (pushs h (bs.map (shb h.sz)))):SC P f vs h k:=hp h k hk
theorem push_mk {s f:Nat} {tr:Tr Blk} {x:Blk}:Hp.push ⟨s,f,tr⟩ x = ⟨s + 1,f,tr.set s x⟩:=rfl
theorem pushs_nil {h:Hp}:pushs h [] = h:=rfl
theorem pushs_cons {h:Hp} {x:Blk} {xs:List Blk}:pushs h (x :: xs) = pushs (h.push x) xs:=rfl
end Go.Kc
end
section
/- The machine with fuel, which the kernel runs on known data. No condition. -/
namespace Go.Kc
variable {P:Program}

abbrev Body:=ICode → (X → Tr AV → Hp → Prop) → Tr AV → Hp → Prop
noncomputable def callE0 (env:Tr IFn) (ih:Body) (f:Nat) (args:List AV) (h:Hp) (k:AV → Hp → Prop):Prop :=
  env.getK f (fun fn=>IFn.rec (motive:=fun _=>Prop) (fun res body=>argsK args 0 .leaf (fun t0=>ih body (fun e t h' =>
    X.rec (motive:=fun _=>Prop) (resK t h' res (fun vs=>k (packR vs) h')) (fun _=>False) (resK t h' res (fun vs=>k (packR vs) h')) e) t0 h)) fn)
abbrev Hook:=Nat → List AV → Option AV
def Hook.none:Hook:=fun _ _=>Option.none
def HookOk (P:Program) (ho:Hook):Prop:=∀ f vs v,ho f vs = some v → Pure P f vs v
theorem HookOk.none:HookOk P Hook.none:=fun _ _ _ h=>by cases h
noncomputable def callE (env:Tr IFn) (ho:Hook) (ih:Body) (f:Nat) (args:List AV) (h:Hp) (k:AV → Hp → Prop):Prop :=
  Option.rec (motive:=fun _=>Prop) (callE0 env ih f args h k) (fun v=>k v h) (ho f args)
noncomputable def fv (env:Tr IFn) (ho:Hook) (n:Nat):Body :=
  Nat.rec (motive:=fun _=>Body) (fun _ _ _ _=>False) (fun _ ih c Q t h=>match c with
    | .skip=>Q .normal t h
    | .reg draw ops=>regK orc0 draw (callE env ho ih) ops (fun t h=>Q .normal t h) t h
    | .seq x y=>ih x (fun e t h=>X.rec (motive:=fun _=>Prop) (ih y Q t h) (fun id=>Q (.exit id) t h) (Q .ret t h) e) t h
    | .cond c x y=>evK t c (fun v=>unB v (fun b=>Bool.rec (motive:=fun _=>Prop) (ih y Q t h) (ih x Q t h) b))
    | .blk id x=>ih x (fun e t h=>X.rec (motive:=fun _=>Prop) (Q .normal t h) (fun id'=>Bool.rec (motive:=fun _=>Prop) (Q (.exit id') t h) (Q .normal t h) (Nat.beq id' id)) (Q .ret t h) e) t h
    | .loop x=>ih x (fun e t h=>X.rec (motive:=fun _=>Prop) (ih (.loop x) Q t h) (fun id=>Q (.exit id) t h) (Q .ret t h) e) t h
    | .exit id=>Q (.exit id) t h
    | .ret=>Q .ret t h
    | .no=>False
    | .cut x=>ih x Q t h) n
def LB (ih:Body):Prop:=∀ c Q t h,ih c Q t h → ∃ e t' h',Q e t' h' ∧ ∀ Q',Q' e t' h' → ih c Q' t h
theorem callE0_l (env:Tr IFn) {ih:Body} (hi:LB ih):LC (callE0 env ih):=by
  intro f vs h k hk
  obtain ⟨fn,g1,g2⟩:=(Tr.getK_iff _ _ _).1 hk
  cases fn with
  | mk res body =>
    obtain ⟨t0,g3,g4⟩:=argsK_l vs 0 .leaf _ g2
    obtain ⟨e,t',h',h1,h2⟩:=hi _ _ _ _ g3
    have back:∀ k',(X.rec (motive:=fun _=>Prop) (resK t' h' res (fun vs=>k' (packR vs) h')) (fun _=>False) (resK t' h' res (fun vs=>k' (packR vs) h')) e:Prop) → callE0 env ih f vs h k':=fun k' hk' =>
      (Tr.getK_iff _ _ _).2 ⟨⟨res,body⟩,g1,g4 (fun t0=>ih body (fun e t h'=>X.rec (motive:=fun _=>Prop) (resK t h' res (fun vs=>k' (packR vs) h')) (fun _=>False) (resK t h' res (fun vs=>k' (packR vs) h')) e) t0 h) (h2 (fun e t h'=>X.rec (motive:=fun _=>Prop) (resK t h' res (fun vs=>k' (packR vs) h')) (fun _=>False) (resK t h' res (fun vs=>k' (packR vs) h')) e) hk')⟩
    cases e with
    | exit id=>exact h1.elim
    | normal =>
      obtain ⟨vs,h3,h4⟩:=resK_l t' h' res _ h1
      exact ⟨_,_,h3,fun k' hk'=>back k' (h4 (fun vs=>k' (packR vs) h') hk')⟩
    | ret =>
      obtain ⟨vs,h3,h4⟩:=resK_l t' h' res _ h1
      exact ⟨_,_,h3,fun k' hk'=>back k' (h4 (fun vs=>k' (packR vs) h') hk')⟩
theorem callE_l (env:Tr IFn) (ho:Hook) {ih:Body} (hi:LB ih):LC (callE env ho ih):=by
  intro f vs h k hk
  unfold callE at hk
  cases hv:ho f vs with
  | none =>
    rw [hv] at hk
    obtain ⟨v,h',h1,h2⟩:=callE0_l env hi f vs h k hk
    exact ⟨v,h',h1,fun k' hk'=>by unfold callE; rw [hv]; exact h2 k' hk'⟩
  | some v =>
    rw [hv] at hk
    exact ⟨v,h,hk,fun k' hk'=>by unfold callE; rw [hv]; exact hk'⟩
theorem fv_l (env:Tr IFn) (ho:Hook):∀ n,LB (fv env ho n)
  | 0=>fun _ _ _ _ h=>h.elim
  | n + 1 => fun c Q t h hk=>by
    have ih:=fv_l env ho n
    cases c with
    | no=>exact hk.elim
    | cut x=>exact ih _ _ _ _ hk
    | skip=>exact ⟨_,_,_,hk,fun _ h=>h⟩
    | exit id=>exact ⟨_,_,_,hk,fun _ h=>h⟩
    | ret=>exact ⟨_,_,_,hk,fun _ h=>h⟩
    | reg draw ops =>
      obtain ⟨t',h',h1,h2⟩:=regK_l orc0 draw (callE_l env ho ih) ops t h _ hk
      exact ⟨_,_,_,h1,fun Q' hQ=>h2 (fun t h=>Q' .normal t h) hQ⟩
    | seq x y =>
      obtain ⟨e,t1,h1,g1,g2⟩:=ih _ _ _ _ hk
      cases e with
      | normal =>
        obtain ⟨e2,t2,h2,g3,g4⟩:=ih _ _ _ _ g1
        exact ⟨e2,t2,h2,g3,fun Q' hQ=>g2 (fun e t h=>X.rec (motive:=fun _=>Prop) (fv env ho n y Q' t h) (fun id=>Q' (.exit id) t h) (Q' .ret t h) e) (g4 _ hQ)⟩
      | exit id=>exact ⟨_,t1,h1,g1,fun Q' hQ=>g2 (fun e t h=>X.rec (motive:=fun _=>Prop) (fv env ho n y Q' t h) (fun id=>Q' (.exit id) t h) (Q' .ret t h) e) hQ⟩
      | ret=>exact ⟨_,t1,h1,g1,fun Q' hQ=>g2 (fun e t h=>X.rec (motive:=fun _=>Prop) (fv env ho n y Q' t h) (fun id=>Q' (.exit id) t h) (Q' .ret t h) e) hQ⟩
    | cond c x y =>
      obtain ⟨v,g1,g2⟩:=evK_l t c _ hk
      obtain ⟨b,g3,g4⟩:=unB_l v _ g1
      cases b with
      | true =>
        obtain ⟨e,t1,h1,g5,g6⟩:=ih _ _ _ _ g3
        exact ⟨e,t1,h1,g5,fun Q' hQ=>g2 (fun v=>unB v (fun b=>Bool.rec (motive:=fun _=>Prop) (fv env ho n y Q' t h) (fv env ho n x Q' t h) b)) (g4 (fun b=>Bool.rec (motive:=fun _=>Prop) (fv env ho n y Q' t h) (fv env ho n x Q' t h) b) (g6 _ hQ))⟩
      | false =>
        obtain ⟨e,t1,h1,g5,g6⟩:=ih _ _ _ _ g3
        exact ⟨e,t1,h1,g5,fun Q' hQ=>g2 (fun v=>unB v (fun b=>Bool.rec (motive:=fun _=>Prop) (fv env ho n y Q' t h) (fv env ho n x Q' t h) b)) (g4 (fun b=>Bool.rec (motive:=fun _=>Prop) (fv env ho n y Q' t h) (fv env ho n x Q' t h) b) (g6 _ hQ))⟩
    | blk id x =>
      obtain ⟨e,t1,h1,g1,g2⟩:=ih _ _ _ _ hk
      cases e with
      | normal=>exact ⟨_,t1,h1,g1,fun Q' hQ=>g2 (fun e t h=>X.rec (motive:=fun _=>Prop) (Q' .normal t h) (fun id'=>Bool.rec (motive:=fun _=>Prop) (Q' (.exit id') t h) (Q' .normal t h) (Nat.beq id' id)) (Q' .ret t h) e) hQ⟩
      | ret=>exact ⟨_,t1,h1,g1,fun Q' hQ=>g2 (fun e t h=>X.rec (motive:=fun _=>Prop) (Q' .normal t h) (fun id'=>Bool.rec (motive:=fun _=>Prop) (Q' (.exit id') t h) (Q' .normal t h) (Nat.beq id' id)) (Q' .ret t h) e) hQ⟩
      | exit id' =>
        have g1':(Bool.rec (motive:=fun _=>Prop) (Q (.exit id') t1 h1) (Q .normal t1 h1) (Nat.beq id' id):Prop):=g1
        cases hb:Nat.beq id' id with
        | true =>
          rw [hb] at g1'
          refine ⟨_,t1,h1,g1',fun Q' hQ=>g2 (fun e t h=>X.rec (motive:=fun _=>Prop) (Q' .normal t h) (fun id'=>Bool.rec (motive:=fun _=>Prop) (Q' (.exit id') t h) (Q' .normal t h) (Nat.beq id' id)) (Q' .ret t h) e) ?_⟩
          show (Bool.rec (motive:=fun _=>Prop) (Q' (.exit id') t1 h1) (Q' .normal t1 h1) (Nat.beq id' id):Prop)
          rw [hb]; exact hQ
        | false =>
          rw [hb] at g1'
          refine ⟨_,t1,h1,g1',fun Q' hQ=>g2 (fun e t h=>X.rec (motive:=fun _=>Prop) (Q' .normal t h) (fun id'=>Bool.rec (motive:=fun _=>Prop) (Q' (.exit id') t h) (Q' .normal t h) (Nat.beq id' id)) (Q' .ret t h) e) ?_⟩
          show (Bool.rec (motive:=fun _=>Prop) (Q' (.exit id') t1 h1) (Q' .normal t1 h1) (Nat.beq id' id):Prop)
          rw [hb]; exact hQ
    | loop x =>
      obtain ⟨e,t1,h1,g1,g2⟩:=ih _ _ _ _ hk
      cases e with
      | normal =>
        obtain ⟨e2,t2,h2,g3,g4⟩:=ih _ _ _ _ g1
        exact ⟨e2,t2,h2,g3,fun Q' hQ=>g2 (fun e t h=>X.rec (motive:=fun _=>Prop) (fv env ho n (.loop x) Q' t h) (fun id=>Q' (.exit id) t h) (Q' .ret t h) e) (g4 _ hQ)⟩
      | exit id=>exact ⟨_,t1,h1,g1,fun Q' hQ=>g2 (fun e t h=>X.rec (motive:=fun _=>Prop) (fv env ho n (.loop x) Q' t h) (fun id=>Q' (.exit id) t h) (Q' .ret t h) e) hQ⟩
      | ret=>exact ⟨_,t1,h1,g1,fun Q' hQ=>g2 (fun e t h=>X.rec (motive:=fun _=>Prop) (fv env ho n (.loop x) Q' t h) (fun id=>Q' (.exit id) t h) (Q' .ret t h) e) hQ⟩

theorem S.mono {n:Nat} {c:ICode} {Q Q':X → Tr AV → Hp → Prop} {t:Tr AV} {h:Hp} (hs:S P n c Q t h) (hq:∀ e t h,Q e t h → Q' e t h):S P n c Q' t h:=by
  intro nt code hc hn ro ρ B w a ht hsz r
  refine wpIn_mono (hs nt code hc hn ro ρ B w a ht hsz r) ?_
  rintro e a1 w1 ⟨x1,t1,h1,ρ1,hx,hq1,rest⟩
  exact ⟨x1,t1,h1,ρ1,hx,hq _ _ _ hq1,rest⟩
theorem S.reg {n:Nat} {d:Bool} {rs:List ROp} {C:CallsB} (hl:LC C) (hC:SoundC P σ0 C) {Q:X → Tr AV → Hp → Prop} {t:Tr AV} {h:Hp} (hv:regK orc0 d C rs (fun t h=>Q .normal t h) t h):S P n (.reg d rs) Q t h:=by
  intro nt code hc hn ro ρ B w a ht hsz r
  cases code <;> first | (simp [chkCode] at hc; done) | skip
  rename_i id ops d'
  simp only [chkCode,Bool.and_eq_true] at hc
  obtain ⟨⟨h1,h2⟩,h3⟩:=hc
  obtain rfl:=eq_of_beq h1
  cases d' with
  | false =>
    refine wpIn_region ?_
    have:=reg_ok (ops:=ops) (nt:=nt) (ro:=ro) (K:=Post σ0 Q nt n ρ B h w a.defers) (ρ0:=ρ) (h0:=h) (w0:=w) (ds:=a.defers) (orc0_ok P) hC (fun a' w' t' h' ρ' g1 g2 g3 g4 g5 g6=>⟨_,t',h',ρ',.normal,g1,g2,g3,g4,g5,g6.kep hn⟩)
      ops.toList rs 0 h2 rfl t h ρ w a hv ht hsz rfl r (Kept.refl _ _ _ _)
    rw [List.range_eq_range']
    simpa using this
  | true =>
    simp only [Bool.not_true,Bool.false_or,Bool.and_eq_true] at h3
    exact draw_ok (orc0_ok P) hl hC h2 h3.1 h3.2 hv ht hsz r (fun a' w' t' h' ρ' g1 g2 g3 g4 g5 g6=>⟨_,t',h',ρ',.normal,g1,g2,g3,g4,g5,g6.kep hn⟩)
theorem S.seq {n:Nat} {x y:ICode} {Q:X → Tr AV → Hp → Prop} {t:Tr AV} {h:Hp} (hv:S P n x (fun e t h=>onX e (S P n y Q t h) (fun id=>Q (.exit id) t h) (Q .ret t h)) t h):S P n (.seq x y) Q t h:=by
  intro nt code hc hn ro ρ B w a ht hsz r
  cases code <;> first | (simp [chkCode] at hc; done) | skip
  rename_i cx cy
  simp only [chkCode,Bool.and_eq_true] at hc
  refine wpIn_seq (wpIn_mono (hv nt cx hc.1 hn ro ρ B w a ht hsz r) ?_)
  rintro e a1 w1 ⟨x1,t1,h1,ρ1,hx,hq,ht1,hs1,hd1,r1,k1⟩
  cases hx with
  | normal=>exact wpIn_mono (hq nt cy hc.2 k1.szle ro ρ1 B w1 a1 ht1 hs1 r1) (fun e a2 w2 hp=>by rw [hd1] at hp; exact Post.weaken k1 hp)
  | exit id=>exact ⟨_,t1,h1,ρ1,.exit id,hq,ht1,hs1,hd1,r1,k1⟩
  | ret=>exact ⟨_,t1,h1,ρ1,.ret,hq,ht1,hs1,hd1,r1,k1⟩
theorem S.cond {n:Nat} {c:O} {x y:ICode} {Q:X → Tr AV → Hp → Prop} {t:Tr AV} {h:Hp} (hv:evK t c (fun v=>unB v (fun b=>if b = true then S P n x Q t h else S P n y Q t h))):S P n (.cond c x y) Q t h:=by
  intro nt code hc hn ro ρ B w a ht hsz r
  cases code <;> first | (simp [chkCode] at hc; done) | skip
  rename_i cc cx cy
  simp only [chkCode,Bool.and_eq_true] at hc
  obtain ⟨⟨h1,h2⟩,h3⟩:=hc
  obtain ⟨v,h4,h5⟩:=ev_ok ht h1 hv
  obtain ⟨b,h6,h7⟩:=unB_ok h5 h4
  cases b with
  | true=>exact wpIn_cond_true h6 (h7 nt cx h2 hn ro ρ B w a ht hsz r)
  | false=>exact wpIn_cond_false h6 (h7 nt cy h3 hn ro ρ B w a ht hsz r)
theorem S.blk {n id:Nat} {x:ICode} {Q:X → Tr AV → Hp → Prop} {t:Tr AV} {h:Hp} (hv:S P n x (fun e t h=>onX e (Q .normal t h) (fun i=>if i = id then Q .normal t h else Q (.exit i) t h) (Q .ret t h)) t h):S P n (.blk id x) Q t h:=by
  intro nt code hc hn ro ρ B w a ht hsz r
  cases code <;> first | (simp [chkCode] at hc; done) | skip
  rename_i id' cx
  simp only [chkCode,Bool.and_eq_true] at hc
  obtain rfl:=eq_of_beq hc.1
  refine wpIn_block (wpIn_mono (hv nt cx hc.2 hn ro ρ B w a ht hsz r) ?_)
  rintro e a1 w1 ⟨x1,t1,h1,ρ1,hx,hq,ht1,hs1,hd1,r1,k1⟩
  cases hx with
  | normal=>exact ⟨_,t1,h1,ρ1,.normal,hq,ht1,hs1,hd1,r1,k1⟩
  | ret=>exact ⟨_,t1,h1,ρ1,.ret,hq,ht1,hs1,hd1,r1,k1⟩
  | exit id2 =>
    show (if id2 = id' then _ else _)
    have hq':(if id2 = id' then Q .normal t1 h1 else Q (.exit id2) t1 h1):=hq
    by_cases he:id2 = id'
    · rw [if_pos he] at hq' ⊢
      exact ⟨_,t1,h1,ρ1,.normal,hq',ht1,hs1,hd1,r1,k1⟩
    · rw [if_neg he] at hq' ⊢
      exact ⟨_,t1,h1,ρ1,.exit id2,hq',ht1,hs1,hd1,r1,k1⟩
theorem S.loop {n:Nat} {x:ICode} {Q:X → Tr AV → Hp → Prop} {t:Tr AV} {h:Hp} (hv:SL P n x Q t h):S P n (.loop x) Q t h:=by
  intro nt code hc hn ro ρ B w a ht hsz r
  cases code <;> first | (simp [chkCode] at hc; done) | skip
  rename_i cx
  exact loopIn_wp (hv nt cx (by simpa [chkCode] using hc) hn ro ρ B w a ht hsz r)
theorem SL.of_S {n:Nat} {x:ICode} {Q:X → Tr AV → Hp → Prop} {t:Tr AV} {h:Hp} (hv:S P n x (fun e t h=>onX e (SL P n x Q t h) (fun id=>Q (.exit id) t h) (Q .ret t h)) t h):SL P n x Q t h:=by
  intro nt cx hc hn ro ρ B w a ht hsz r
  refine loopIn_step (wpIn_mono (hv nt cx hc hn ro ρ B w a ht hsz r) ?_)
  rintro e a1 w1 ⟨x1,t1,h1,ρ1,hx,hq,ht1,hs1,hd1,r1,k1⟩
  cases hx with
  | normal=>exact LoopIn.mono (hq nt cx hc k1.szle ro ρ1 B w1 a1 ht1 hs1 r1) (fun e a2 w2 hp=>by rw [hd1] at hp; exact Post.weaken k1 hp)
  | exit id=>exact ⟨_,t1,h1,ρ1,.exit id,hq,ht1,hs1,hd1,r1,k1⟩
  | ret=>exact ⟨_,t1,h1,ρ1,.ret,hq,ht1,hs1,hd1,r1,k1⟩
def EnvOk (P:Program) (env:Tr IFn):Prop:=∀ f i,env.get f = some i → chkFn P f i = true
theorem argsK_iff:∀ {l:List AV} {n:Nat} {t:Tr AV} {k:Tr AV → Prop},argsK l n t k ↔ k (argsT l n t)
  | [],_,_,_=>Iff.rfl
  | v :: l,n,t,k=>by
    show t.setK n v (fun t'=>forceN (Nat.succ n) (fun n'=>argsK l n' t' k)) ↔ _
    rw [Tr.setK_iff,forceN_eq,argsK_iff]
    exact Iff.rfl
theorem callE0_sound {env:Tr IFn} (he:EnvOk P env) {ih:Body} (hi:∀ c Q t h,ih c Q t h → ∀ n,S P n c Q t h) {f:Nat} {vs:List AV} {h:Hp} {k:AV → Hp → Prop} (hk:callE0 env ih f vs h k):SC P f vs h k:=by
  obtain ⟨fn,g1,g2⟩:=(Tr.getK_iff _ _ _).1 hk
  cases fn with
  | mk res body =>
    have g3:=argsK_iff.1 g2
    exact SC.mk (he f _ g1) (hi _ _ _ _ g3 h.sz)
theorem callE_sound {env:Tr IFn} {ho:Hook} (he:EnvOk P env) (hh:HookOk P ho) {ih:Body} (hi:∀ c Q t h,ih c Q t h → ∀ n,S P n c Q t h) {f:Nat} {vs:List AV} {h:Hp} {k:AV → Hp → Prop} (hk:callE env ho ih f vs h k):SC P f vs h k:=by
  unfold callE at hk
  cases hv:ho f vs with
  | none=>rw [hv] at hk; exact callE0_sound he hi hk
  | some v=>rw [hv] at hk; exact hh f vs v hv h k hk
theorem fv_sound {env:Tr IFn} {ho:Hook} (he:EnvOk P env) (hh:HookOk P ho):∀ m,(∀ c Q t h,fv env ho m c Q t h → ∀ n,S P n c Q t h) ∧ (∀ x Q t h,fv env ho m (.loop x) Q t h → ∀ n,SL P n x Q t h)
  | 0=>⟨fun _ _ _ _ h=>h.elim,fun _ _ _ _ h=>h.elim⟩
  | m + 1 => by
    obtain ⟨ih,ihl⟩:=fv_sound he hh m
    have loop:∀ x Q t h,fv env ho (m + 1) (.loop x) Q t h → ∀ n,SL P n x Q t h:=by
      intro x Q t h hv n
      have hv':fv env ho m x (fun e t h=>onX e (fv env ho m (.loop x) Q t h) (fun id=>Q (.exit id) t h) (Q .ret t h)) t h:=hv
      refine SL.of_S ((ih _ _ _ _ hv' n).mono ?_)
      intro e t h hq
      cases e with
      | normal=>exact ihl x Q t h hq n
      | exit id=>exact hq
      | ret=>exact hq
    refine ⟨fun c Q t h hv n=>?_,loop⟩
    cases c with
    | no=>exact hv.elim
    | cut x=>exact V_sound (c:=.cut x) (ih _ _ _ _ hv n)
    | skip=>exact V_sound (c:=.skip) hv
    | exit id=>exact V_sound (c:=.exit id) hv
    | ret=>exact V_sound (c:=.ret) hv
    | reg d ops=>exact S.reg (callE_l env ho (fv_l env ho m)) (fun f vs h k hk=>callE_sound he hh ih hk) hv
    | seq x y =>
      have hv':fv env ho m x (fun e t h=>onX e (fv env ho m y Q t h) (fun id=>Q (.exit id) t h) (Q .ret t h)) t h:=hv
      refine S.seq ((ih _ _ _ _ hv' n).mono ?_)
      intro e t h hq
      cases e with
      | normal=>exact ih y Q t h hq n
      | exit id=>exact hq
      | ret=>exact hq
    | cond c x y =>
      obtain ⟨v,g1,g2⟩:=evK_l t c _ hv
      refine S.cond (g2 _ ?_)
      obtain ⟨b,g3,g4⟩:=unB_l v _ g1
      refine g4 _ ?_
      cases b with
      | true=>exact ih _ _ _ _ g3 n
      | false=>exact ih _ _ _ _ g3 n
    | blk id x =>
      have hv':fv env ho m x (fun e t h=>X.rec (motive:=fun _=>Prop) (Q .normal t h) (fun id'=>Bool.rec (motive:=fun _=>Prop) (Q (.exit id') t h) (Q .normal t h) (Nat.beq id' id)) (Q .ret t h) e) t h:=hv
      refine S.blk ((ih _ _ _ _ hv' n).mono ?_)
      intro e t h hq
      cases e with
      | normal=>exact hq
      | ret=>exact hq
      | exit i =>
        have hq':(Bool.rec (motive:=fun _=>Prop) (Q (.exit i) t h) (Q .normal t h) (Nat.beq i id):Prop):=hq
        show (if i = id then _ else _)
        by_cases hi:i = id
        · subst hi; rw [Nat.beq_refl] at hq'; rw [if_pos rfl]; exact hq'
        · rw [if_neg hi]
          cases hb:Nat.beq i id with
          | true=>exact absurd (Nat.eq_of_beq_eq_true hb) hi
          | false=>rw [hb] at hq'; exact hq'
    | loop x=>exact S.loop (loop x Q t h hv n)
theorem SC.run {env:Tr IFn} {ho:Hook} (he:EnvOk P env) (hh:HookOk P ho) (m:Nat) {f:Nat} {vs:List AV} {h:Hp} {k:AV → Hp → Prop} (hk:callE env ho (fv env ho m) f vs h k):SC P f vs h k:=callE_sound he hh (fv_sound he hh m).1 hk
theorem Pure.run {env:Tr IFn} {ho:Hook} (he:EnvOk P env) (hh:HookOk P ho) (m:Nat) {f:Nat} {vs:List AV} {v:AV} (hcl:clos vs = true) (hk:callE env ho (fv env ho m) f vs H0 (fun v' h'=>Frz h' v' v)):Pure P f vs v:=Pure.of_SC hcl (SC.run he hh m hk)
end Go.Kc
end
section
/- Ranges over strings; maps in states written out. No condition. -/
namespace Go.Kc
variable {P:Program} {t:Tr AV} {h:Hp} {k:AV → Hp → Prop}

def runeAt (l:List UInt8) (i:Nat):Nat × Nat:=Utf8.decode ⟨l.toArray⟩ i
theorem rune_w (l:List UInt8) (i:Nat):1 ≤ (runeAt l i).2:=by
  unfold runeAt Utf8.decode
  dsimp only
  repeat' split
  all_goals simp
theorem op_rangeS {x:O}:opK orc0 (.rangeS x) t h k ↔ evK t x (fun x=>match x with | .s a=>newK h (.map (iterE a 0)) (fun b h'=>k (.ptr b 0) h') | _=>False):=Iff.rfl
def itAt (x:Blk) (k:List UInt8 → Nat → Prop):Prop:=∃ a n,x = .map (iterE a n) ∧ k a n
@[congr] theorem itAt_congr {x x':Blk} {k:List UInt8 → Nat → Prop} {mk:Prop} (_:Mark = mk) (h:x = x'):itAt x k = itAt x' k:=by rw [h]
theorem iterE_inj {a a':List UInt8} {n n':Nat} (e:iterE a n = iterE a' n'):a = a' ∧ n = n':=by
  simp only [iterE,List.cons.injEq,Prod.mk.injEq,AV.s.injEq,AV.i.injEq,true_and,and_true] at e
  exact ⟨e.1,Int.ofNat.inj e.2⟩
theorem itAt_it {a:List UInt8} {n:Nat} {k:List UInt8 → Nat → Prop}:itAt (.map (iterE a n)) k ↔ k a n:=by
  constructor
  · rintro ⟨a',n',h1,h2⟩
    obtain ⟨rfl,rfl⟩:=iterE_inj (Blk.map.inj h1)
    exact h2
  · intro h1; exact ⟨a,n,rfl,h1⟩
theorem op_nextS {x:O}:opK orc0 (.nextS x) t h k ↔ evK t x (fun x=>unP x (fun b o=>ifK (o = 0) (evB (h.tr.get b) (fun y=>itAt y (fun a n=>if n < a.length then evN (n + (runeAt a n).2) (fun m=>putK h b (.map (iterE a m)) (fun h'=>evA (.i .i32 ((runeAt a n).1:Int)) (fun c=>k (.tup [.b true,.i .i64 (n:Int),c]) h'))) else k (.tup [.b false]) h))))):=by
  show evK t x (fun x=>unP x (fun b o=>whenK (Nat.beq o 0) (iterK h b _))) ↔ _
  refine iff_of_eq (congrArg _ (funext fun v=>congrArg _ (funext fun b=>funext fun o=>?_)))
  rw [show (whenK (Nat.beq o 0) = fun p=>ifK (o = 0) p) from by funext p; exact propext ((whenK_iff _ _).trans (by rw [beq_iff]; exact Iff.rfl))]
  refine congrArg _ (propext (iterK_iff.trans ?_))
  have body:∀ a n,(match a[n]? with
    | some c=>(Bool.rec (motive:=fun _=>Prop)
        (putK h b (.map (iterE a (Nat.add n (Utf8.decode ⟨a.toArray⟩ n).2))) (fun h'=>k (.tup [.b true,.i .i64 (Int.ofNat n),.i .i32 (Int.ofNat (Utf8.decode ⟨a.toArray⟩ n).1)]) h'))
        (forceN (Nat.succ n) (fun m=>putK h b (.map (iterE a m)) (fun h'=>k (.tup [.b true,.i .i64 (Int.ofNat n),.i .i32 (Int.ofNat c.toNat)]) h')))
        (Nat.ble (Nat.succ c.toNat) 128):Prop)
    | none=>k (.tup [.b false]) h) ↔ if n < a.length then evN (n + (runeAt a n).2) (fun m=>putK h b (.map (iterE a m)) (fun h'=>evA (.i .i32 ((runeAt a n).1:Int)) (fun c=>k (.tup [.b true,.i .i64 (n:Int),c]) h'))) else k (.tup [.b false]) h:=by
    intro a n
    by_cases hi:n < a.length
    · rw [if_pos hi,List.getElem?_eq_getElem hi]
      dsimp only
      cases hc:Nat.ble (Nat.succ a[n].toNat) 128 with
      | false=>exact Iff.rfl
      | true =>
        have hlt:=Nat.le_of_ble_eq_true hc
        have hd:runeAt a n = (a[n].toNat,1):=decode_ascii (List.getElem?_eq_getElem hi) (by omega)
        show forceN _ _ ↔ _
        rw [forceN_eq,hd]
        exact Iff.rfl
    · rw [if_neg hi,List.getElem?_eq_none (by omega)]
  constructor
  · rintro ⟨a,n,h1,h2⟩
    exact ⟨_,h1,a,n,rfl,(body a n).1 h2⟩
  · rintro ⟨_,h1,a,n,rfl,h2⟩
    exact ⟨a,n,h1,(body a n).2 h2⟩
def mapClo (es:List (AV × AV)):Prop:=∀ e ∈ es,clo e.1 = true ∧ clo e.2 = true
theorem bw_map {r:Nat → Nat} {m b:Nat} {es:List (AV × AV)} (hb:b < h.sz):BW h r m b (.map es) ↔ evB (h.tr.get b) (fun x=>mapAt x (fun es'=>es' = es ∧ mapClo es)):=by
  constructor
  · rintro (h1 | h1 | ⟨e',w0,a0,cs,w',a',cs'',h1,h2,h3,h4,h5⟩ | ⟨es',h1,h2,h3⟩)
    · omega
    · cases h1
    · cases h2
    · cases h2
      exact ⟨_,h1,rfl,h3⟩
  · rintro ⟨x,h1,h2⟩
    cases x with
    | map es' =>
      obtain ⟨rfl,h3⟩:=h2
      exact .inr (.inr (.inr ⟨_,h1,rfl,h3⟩))
    | dead=>exact h2.elim
    | cells e0 w0 a0 cs=>exact h2.elim
theorem mapClo_it {a:List UInt8} {n:Nat}:mapClo (iterE a n) ↔ True:=by
  refine iff_true_intro ?_
  intro e he
  simp only [iterE,List.mem_cons,List.mem_nil_iff,or_false] at he
  rcases he with rfl | rfl <;> exact ⟨rfl,rfl⟩
theorem mapClo_nil:mapClo [] ↔ True:=iff_true_intro (by intro e he; cases he)
theorem mapClo_cons {e:AV × AV} {es:List (AV × AV)}:mapClo (e :: es) ↔ (clo e.1 = true ∧ clo e.2 = true) ∧ mapClo es:=by simp [mapClo]
theorem un_xor {n:Nat} (hn:n ≤ 9223372036854775807) {k:AV → Prop}:unopK .xor (.i .i64 (n:Int)) k ↔ evA (.i .i64 (-1 - (n:Int))) k:=by
  have e:(BitVec.ofInt 64 (-1) ^^^ BitVec.ofInt 64 (Int.ofNat n)).toNat = 18446744073709551615 - n:=by
    have e1:BitVec.ofInt 64 (-1) = BitVec.allOnes 64:=by decide
    have e2:BitVec.ofInt 64 (Int.ofNat n) = BitVec.ofNat 64 n:=BitVec.ofInt_natCast 64 n
    rw [e1,e2,BitVec.allOnes_xor,BitVec.toNat_not,BitVec.toNat_ofNat,Nat.mod_eq_of_lt (by omega)]
  show forceI (IntKind.wrap .i64 ((BitVec.ofInt 64 (-1) ^^^ BitVec.ofInt 64 (Int.ofNat n)).toNat:Nat)) (fun r=>k (.i .i64 r)) ↔ _
  rw [forceI_eq,e]
  have e3:IntKind.wrap .i64 ((18446744073709551615 - n:Nat):Int) = -1 - (n:Int):=by
    simp [IntKind.wrap,IntKind.bits,IntKind.signed]
    omega
  rw [e3]; exact Iff.rfl
theorem SC.nil0 {f:Nat} {k:AV → Hp → Prop} (h1:SC P f [.nils] h k) (h2:SC P f [.nz] h k):SC P f [.fz 0 []] h k:=by
  refine ⟨h1.1,fun ρ B w args r ha=>?_⟩
  generalize hl:args.toList = xs at ha
  cases ha with
  | cons _ _ x xs hx hxs =>
    cases hx with
    | fz _ off c _ k' arr hn hk hs=>exact h2.2 ρ B w args r (by rw [hl]; exact .cons _ _ _ _ (.nz _ _) hxs)
    | fz0 a =>
      cases a with
      | none=>exact h1.2 ρ B w args r (by rw [hl]; exact .cons _ _ _ _ .nils hxs)
      | some a=>exact h2.2 ρ B w args r (by rw [hl]; exact .cons _ _ _ _ (.nz _ _) hxs)
theorem nvs_self {r:Nat → Nat} {m:Nat} {vs:List AV} (hc:clos vs = true):NVs r m vs vs ↔ True:=iff_true_intro (NVs.refl hc)
theorem frzs_self {vs:List AV} (hc:clos vs = true):Frzs h vs vs ↔ True:=iff_true_intro (Frzs.self hc)
theorem clos_rep {n:Nat} {v:AV} (hv:clo v = true):clos (List.replicate n v) = true:=by
  induction n with
  | zero=>rfl
  | succ n ih=>simp [List.replicate_succ,clos,hv,ih]
theorem rep_one {n:Nat} {v:AV}:(List.replicate n [v]).flatten = List.replicate n v:=by
  induction n with
  | zero=>rfl
  | succ n ih=>rw [List.replicate_succ,List.flatten_cons,ih]; rfl
theorem Wk.mkn {n:Nat} {t:Tr AV} (ts:List (Nat × AV)) (bl:List Blk) (src:List Nat) (hT:TWs t (rl src h.sz) bl.length ts) (hB:BWs h (rl src h.sz) bl.length src bl)
    (hI:((src.filter fun b=>decide (b < h.sz)).Nodup)) (hfl:h.fl = 0) (hn:n ≤ bl.length) (hlow:∀ b,b < n → rl src h.sz b = b):Wk n t h (mkT ts) (mkH 0 bl):=by
  obtain ⟨hlen,hget⟩:=hB.get
  refine Wk.of (r:=rl src h.sz) ⟨hfl.symm,fun b' x' hb hg=>?_,fun b1 b2 h1 h2 _ _ he hl=>?_,fun b' _ _ _=>by rw [hfl]; exact Nat.zero_le _,hlow,hn,fun b _ hb=>by rw [hfl] at hb; exact absurd hb (Nat.not_lt_zero _),fun j v' hj=>?_⟩
  · rw [mkH_get] at hg
    obtain ⟨b,q1,q2⟩:=hget b' x' hg
    have:rl src h.sz b' = b:=by simp [rl,List.getD_eq_getElem?_getD,q1]
    rw [this]; exact q2
  · have h1:b1 < src.length:=by rw [hlen]; exact h1
    have h2:b2 < src.length:=by rw [hlen]; exact h2
    simp only [rl,List.getD_eq_getElem?_getD,List.getElem?_eq_getElem h1,List.getElem?_eq_getElem h2,Option.getD_some] at he hl
    exact Wk.mk.nodup_filter_inj hI h1 h2 he (by simpa using hl)
  · exact hT.get _ (mkT_get hj)
theorem SL.loopn {n:Nat} {α:Type} {x:ICode} {Q:X → Tr AV → Hp → Prop} (T:α → List (Nat × AV)) (B:α → List Blk) (I:α → Prop) (μ:α → Nat) (a0:α) (src:List Nat)
    (hT:TWs t (rl src h.sz) (B a0).length (T a0)) (hB:BWs h (rl src h.sz) (B a0).length src (B a0)) (hI:(src.filter fun b=>decide (b < h.sz)).Nodup) (hfl:h.fl = 0) (hn:n ≤ (B a0).length) (hlow:∀ b,b < n → rl src h.sz b = b) (h0:I a0)
    (step:∀ a,I a → ∀ G:Tr AV → Hp → Prop,(∀ b,I b → μ b < μ a → ∀ t' h',Wk n t' h' (mkT (T b)) (mkH 0 (B b)) → G t' h') →
      V P n x (fun e t h=>onX e (G t h) (fun id=>Q (.exit id) t h) (Q .ret t h)) (mkT (T a)) (mkH 0 (B a))):SL P n x Q t h:=by
  have main:∀ m a,μ a = m → I a → SL P n x Q (mkT (T a)) (mkH 0 (B a)):=by
    intro m
    induction m using Nat.strongRecOn with
    | ind m ih =>
      intro a ha hi
      exact SL_step (step a hi (fun t h=>SL P n x Q t h) fun b hb hlt t' h' hw=>SL.weak hw (ih (μ b) (ha ▸ hlt) b rfl hb))
  exact SL.weak (Wk.mkn (T a0) (B a0) src hT hB hI hfl hn hlow) (main _ a0 rfl h0)
end Go.Kc
end
section
/- Calls that write through pointers: shown on the blocks they reach, used at any heap. No condition. -/
namespace Go.Kc
variable {P:Program}

mutual
def rnv (g:Nat → Nat):AV → AV
  | .ptr b o=>.ptr (g b) o
  | .sl b o n c l=>.sl (g b) o n c l
  | .map b=>.map (g b)
  | .own b n=>.own (g b) n
  | .fn f a c=>.fn f (rnvs g a) (rnvs g c)
  | .ifc t v=>.ifc t (rnv g v)
  | .agg cs=>.agg (rnvs g cs)
  | .tup cs=>.tup (rnvs g cs)
  | v=>v
def rnvs (g:Nat → Nat):List AV → List AV
  | []=>[]
  | v :: vs=>rnv g v :: rnvs g vs
end
mutual
def bnd (m:Nat):AV → Bool
  | .ptr b _=>decide (b < m)
  | .sl b _ _ _ _=>decide (b < m)
  | .map b=>decide (b < m)
  | .own b _=>decide (b < m)
  | .fn _ a c=>bnds m a && bnds m c
  | .ifc _ v=>bnd m v
  | .agg cs=>bnds m cs
  | .tup cs=>bnds m cs
  | _=>true
def bnds (m:Nat):List AV → Bool
  | []=>true
  | v :: vs=>bnd m v && bnds m vs
end
theorem rnvs_get {g:Nat → Nat}:∀ {vs:List AV} {j:Nat},(rnvs g vs)[j]? = (vs[j]?).map (rnv g)
  | [],j=>by simp [rnvs]
  | v :: vs,0=>by simp [rnvs]
  | v :: vs,j + 1=>by simpa [rnvs] using rnvs_get (vs:=vs) (j:=j)
theorem rnvs_length {g:Nat → Nat}:∀ {vs:List AV},(rnvs g vs).length = vs.length
  | []=>rfl
  | v :: vs=>by simp [rnvs,rnvs_length (vs:=vs)]
theorem bnds_get {m:Nat}:∀ {vs:List AV} {j:Nat} {v:AV},bnds m vs = true → vs[j]? = some v → bnd m v = true
  | [],_,_,_,h=>by simp at h
  | x :: xs,0,_,hb,h=>by
    simp only [bnds,Bool.and_eq_true] at hb
    simp at h; subst h; exact hb.1
  | x :: xs,j + 1,_,hb,h=>by
    simp only [bnds,Bool.and_eq_true] at hb
    exact bnds_get (vs:=xs) (j:=j) hb.2 (by simpa using h)
mutual
theorem VR.rn {ρ2 ρ3:Ren} {g:Nat → Nat} (h1:∀ b L,ρ2 b = some L → ρ3 (g b) = some L) (h2:∀ k a,ρ2.frz k = some a → ρ3.frz k = some a) (h3:∀ b,b < ρ2.n → g b < ρ3.n):∀ {v:AV} {x:Value},VR σ0 ρ2 v x → VR σ0 ρ3 (rnv g v) x
  | _,_,.undef v=>.undef v
  | _,_,.b x=>.b x
  | _,_,.i k n=>.i k n
  | _,_,.s x=>.s x
  | _,_,.nilp=>.nilp
  | _,_,.ptr b o L h=>.ptr _ _ L (h1 _ _ h)
  | _,_,.nils=>.nils
  | _,_,.sl b o len cap c loose L h hc=>.sl _ _ _ _ _ _ L (h1 _ _ h) hc
  | _,_,.slz b o x l' L h=>.slz _ _ _ _ L (h1 _ _ h)
  | _,_,.nilf=>.nilf
  | _,_,.fn f first cap first' cap' q1 q2=>.fn _ _ _ _ _ (VRs.rn h1 h2 h3 q1) (VRs.rn h1 h2 h3 q2)
  | _,_,.nili=>.nili
  | _,_,.ifc t v v' h=>.ifc _ _ _ (VR.rn h1 h2 h3 h)
  | _,_,.agg cs cs' h=>.agg _ _ (VRs.rn h1 h2 h3 h)
  | _,_,.tup cs cs' h=>.tup _ _ (VRs.rn h1 h2 h3 h)
  | _,_,.nilm=>.nilm
  | _,_,.map b L h h0=>.map _ L (h1 _ _ h) h0
  | _,_,.sym j=>.sym j
  | _,_,.fz n off c cs k arr hn h hs=>.fz n off c cs k arr hn (h2 _ _ h) (hs.mono h2)
  | _,_,.fz0 a=>.fz0 a
  | _,_,.pf off base cs k arr h hs=>.pf off base cs k arr (h2 _ _ h) (hs.mono h2)
  | _,_,.e0 a=>.e0 a
  | _,_,.nz a c=>.nz a c
  | _,_,.own0 b a hb=>.own0 _ _ (h3 _ hb)
  | _,_,.own b n c L h hn hc'=>.own _ _ _ L (h1 _ _ h) hn hc'
theorem VRs.rn {ρ2 ρ3:Ren} {g:Nat → Nat} (h1:∀ b L,ρ2 b = some L → ρ3 (g b) = some L) (h2:∀ k a,ρ2.frz k = some a → ρ3.frz k = some a) (h3:∀ b,b < ρ2.n → g b < ρ3.n):∀ {v:List AV} {x:List Value},VRs σ0 ρ2 v x → VRs σ0 ρ3 (rnvs g v) x
  | _,_,.nil=>.nil
  | _,_,.cons v vs v' vs' h hs=>.cons _ _ _ _ (VR.rn h1 h2 h3 h) (VRs.rn h1 h2 h3 hs)
end
mutual
theorem VR.nr {ρ ρs:Ren} {g:Nat → Nat} {m:Nat} (h1:∀ b L,b < m → ρ (g b) = some L → ρs b = some L) (h2:ρs.frz = ρ.frz) (h3:ρs.n = m):∀ {v:AV} {x:Value},bnd m v = true → VR σ0 ρ (rnv g v) x → VR σ0 ρs v x
  | .undef,_,_,h=>by cases h; exact .undef _
  | .b _,_,_,h=>by cases h; exact .b _
  | .i _ _,_,_,h=>by cases h; exact .i _ _
  | .s _,_,_,h=>by cases h; exact .s _
  | .nilp,_,_,h=>by cases h; exact .nilp
  | .ptr b o,_,hb,h=>by
    simp only [bnd,decide_eq_true_eq] at hb
    cases h with
    | ptr _ _ L q=>exact .ptr _ _ L (h1 _ _ hb q)
  | .nils,_,_,h=>by cases h; exact .nils
  | .sl b o n c l,_,hb,h=>by
    simp only [bnd,decide_eq_true_eq] at hb
    cases h with
    | sl _ _ _ _ _ _ L q hc=>exact .sl _ _ _ _ _ _ L (h1 _ _ hb q) hc
    | slz _ _ _ _ L q=>exact .slz _ _ _ _ L (h1 _ _ hb q)
  | .nilf,_,_,h=>by cases h; exact .nilf
  | .fn f a c,_,hb,h=>by
    simp only [bnd,Bool.and_eq_true] at hb
    cases h with
    | fn _ _ _ _ _ q1 q2=>exact .fn _ _ _ _ _ (VRs.nr h1 h2 h3 hb.1 q1) (VRs.nr h1 h2 h3 hb.2 q2)
  | .nili,_,_,h=>by cases h; exact .nili
  | .ifc t v,_,hb,h=>by
    simp only [bnd] at hb
    cases h with
    | ifc _ _ _ q=>exact .ifc _ _ _ (VR.nr h1 h2 h3 hb q)
  | .agg cs,_,hb,h=>by
    simp only [bnd] at hb
    cases h with
    | agg _ _ q=>exact .agg _ _ (VRs.nr h1 h2 h3 hb q)
  | .tup cs,_,hb,h=>by
    simp only [bnd] at hb
    cases h with
    | tup _ _ q=>exact .tup _ _ (VRs.nr h1 h2 h3 hb q)
  | .nilm,_,_,h=>by cases h; exact .nilm
  | .map b,_,hb,h=>by
    simp only [bnd,decide_eq_true_eq] at hb
    cases h with
    | map _ L q h0=>exact .map _ L (h1 _ _ hb q) h0
  | .sym j,_,_,h=>by cases h; exact .sym _
  | .fz n cs,_,_,h=>by
    cases h with
    | fz _ off c _ k arr hn q hs=>exact .fz _ off c _ k arr hn (by rw [h2]; exact q) (by rw [h2]; exact hs)
    | fz0 a=>exact .fz0 a
  | .pf cs o,_,_,h=>by
    cases h with
    | pf off base _ k arr q hs=>exact .pf _ base _ k arr (by rw [h2]; exact q) (by rw [h2]; exact hs)
  | .e0,_,_,h=>by cases h; exact .e0 _
  | .nz,_,_,h=>by cases h; exact .nz _ _
  | .own b n,_,hb,h=>by
    simp only [bnd,decide_eq_true_eq] at hb
    cases h with
    | own0 _ a q=>exact .own0 _ _ (by rw [h3]; exact hb)
    | own _ _ c L q hn hc=>exact .own _ _ c L (h1 _ _ hb q) hn hc
theorem VRs.nr {ρ ρs:Ren} {g:Nat → Nat} {m:Nat} (h1:∀ b L,b < m → ρ (g b) = some L → ρs b = some L) (h2:ρs.frz = ρ.frz) (h3:ρs.n = m):∀ {v:List AV} {x:List Value},bnds m v = true → VRs σ0 ρ (rnvs g v) x → VRs σ0 ρs v x
  | [],_,_,h=>by cases h; exact .nil
  | v :: vs,_,hb,h=>by
    simp only [bnds,Bool.and_eq_true] at hb
    cases h with
    | cons _ _ _ _ q1 q2=>exact .cons _ _ _ _ (VR.nr h1 h2 h3 hb.1 q1) (VRs.nr h1 h2 h3 hb.2 q2)
end

def gAt (at':List Nat) (d:Nat):Nat → Nat:=fun b=>if b < at'.length then at'.getD b 0 else d + (b - at'.length)
theorem gAt_lo {at':List Nat} {d b:Nat} (h:b < at'.length):gAt at' d b = at'[b]:=by
  simp [gAt,h]
theorem gAt_hi {at':List Nat} {d b:Nat} (h:at'.length ≤ b):gAt at' d b = d + (b - at'.length):=by
  simp only [gAt]; rw [if_neg (by omega)]
structure Lent (h:Hp) (at':List Nat) (bs:List Blk):Prop where
  len:at'.length = bs.length
  nd:at'.Nodup
  blk:∀ i x,bs[i]? = some x → ∃ e a cs,x = .cells e true a cs ∧ bnds bs.length cs = true ∧ h.tr.get (gAt at' h.sz i) = some (.cells e true a (rnvs (gAt at' h.sz) cs)) ∧ h.fl ≤ gAt at' h.sz i ∧ gAt at' h.sz i < h.sz
def Ren.small (ρ:Ren) (at':List Nat) (d:Nat):Ren:=⟨fun i=>if i < at'.length then ρ (gAt at' d i) else none,ρ.frz,at'.length⟩
theorem small_some {ρ:Ren} {at':List Nat} {d i:Nat} {L:Loc} (h:ρ.small at' d i = some L):i < at'.length ∧ ρ (gAt at' d i) = some L:=by
  simp only [Ren.small] at h; split at h
  · exact ⟨by assumption,h⟩
  · cases h
def Bar (ρ:Ren) (B:Nat → Prop) (h:Hp) (at':List Nat):Nat → Prop:=fun k=>B k ∨ ∃ b L x,ρ b = some L ∧ b ∉ at' ∧ h.tr.get b = some x ∧ x ≠ .dead ∧ L.blk = k
theorem Lent.inj {h:Hp} {at':List Nat} {bs:List Blk} (l:Lent h at' bs) {i j:Nat} (hi:i < at'.length) (hj:j < at'.length) (he:gAt at' h.sz i = gAt at' h.sz j):i = j:=by
  rw [gAt_lo hi,gAt_lo hj] at he
  exact (List.getElem_inj l.nd).1 he
theorem Lent.mem {h:Hp} {at':List Nat} {i:Nat} (hi:i < at'.length):gAt at' h.sz i ∈ at':=by
  rw [gAt_lo hi]; exact List.getElem_mem _
theorem Rel.small {ρ:Ren} {B:Nat → Prop} {h:Hp} {w:World} {at':List Nat} {bs:List Blk} (r:Rel σ0 ρ B h w) (l:Lent h at' bs):Rel σ0 (ρ.small at' h.sz) (Bar ρ B h at') (mkH 0 bs) w:=by
  have get:∀ i L x,ρ.small at' h.sz i = some L → (mkH 0 bs).tr.get i = some x → i < at'.length ∧ ρ (gAt at' h.sz i) = some L ∧ ∃ e a cs,x = .cells e true a cs ∧ bnds bs.length cs = true ∧ h.tr.get (gAt at' h.sz i) = some (.cells e true a (rnvs (gAt at' h.sz) cs)) ∧ h.fl ≤ gAt at' h.sz i:=by
    intro i L x h1 h2
    obtain ⟨h3,h4⟩:=small_some h1
    rw [mkH_get] at h2
    obtain ⟨e,a,cs,h5,h6,h7,h8,_⟩:=l.blk i x h2
    exact ⟨h3,h4,e,a,cs,h5,h6,h7,h8⟩
  refine ⟨fun i L hb=>?_,?_,?_,?_,?_,?_,?_,?_,?_,?_⟩
  · have:=(small_some hb).1
    rw [l.len] at this; exact this
  · intro i L e wf af cs hb hg
    obtain ⟨h1,h2,e',a,cs',h3,h4,h5,h6⟩:=get i L _ hb hg
    cases h3
    obtain ⟨q1,c,ty,fz,q2,q3,q4,q5,q6⟩:=r.cells _ L _ _ _ _ h2 h5
    rw [rnvs_length] at q4
    refine ⟨q1,c,ty,fz,q2,q3,q4,fun j v hv=>?_,q6⟩
    obtain ⟨v',p1,p2⟩:=q5 j (rnv (gAt at' h.sz) v) (by rw [rnvs_get,hv]; rfl)
    exact ⟨v',p1,VR.nr (ρ:=ρ) (ρs:=ρ.small at' h.sz) (g:=gAt at' h.sz) (m:=bs.length) (fun b L hbm hbL=>by
      show (if b < at'.length then ρ (gAt at' h.sz b) else none) = some L
      rw [if_pos (by rw [l.len]; exact hbm)]; exact hbL) rfl l.len (bnds_get h4 hv) p2⟩
  · intro i L es hb hg
    obtain ⟨_,_,e',a,cs',h3,_⟩:=get i L _ hb hg
    cases h3
  · intro b L e af cs hb hg b' L' x hb' hx hd he
    obtain ⟨h1,h2,e',a,cs',h3,h4,h5,h6⟩:=get b L _ hb hg
    obtain ⟨i1,i2,e2,a2,cs2,i3,i4,i5,i6⟩:=get b' L' _ hb' hx
    exact l.inj i1 h1 (r.excl _ L _ _ _ h2 h5 _ L' _ i2 i5 (by simp) he)
  · intro b L es hb hg
    obtain ⟨_,_,e',a,cs',h3,_⟩:=get b L _ hb hg
    cases h3
  · intro b L e wf cs hb hg b' L' e' wf' af' cs' hb' hx he
    obtain ⟨h1,h2,e1,a1,cs1,h3,h4,h5,h6⟩:=get b L _ hb hg
    obtain ⟨i1,i2,e2,a2,cs2,i3,i4,i5,i6⟩:=get b' L' _ hb' hx
    cases h3; cases i3
    have q:=r.app _ L _ _ _ h2 h5 _ L' _ _ _ _ i2 i5 he
    rw [rnvs_length,rnvs_length] at q
    exact ⟨q.1,fun hh=>l.inj i1 h1 (q.2 hh)⟩
  · intro i L hb _ hbar
    have hi:=(small_some hb).1
    have hi':i < bs.length:=by rw [← l.len]; exact hi
    obtain ⟨h1,h2,e',a,cs',h3,h4,h5,h6⟩:=get i L bs[i] hb (by rw [mkH_get,List.getElem?_eq_getElem hi'])
    rcases hbar with hB | ⟨b,L',x,g1,g2,g3,g4,g5⟩
    · exact r.flr _ L h2 h6 hB
    · have:=r.excl _ L _ _ _ h2 h5 b L' x g1 g3 g4 g5
      exact g2 (this ▸ Lent.mem hi)
  · rintro k (hB | ⟨b,L',x,g1,g2,g3,g4,rfl⟩)
    · exact r.base k hB
    · exact r.blk_lt b L' g1 x g3 g4
  · intro k arr hk
    refine ⟨(r.frz k arr hk).1,fun b L x hb hx hd=>?_⟩
    obtain ⟨h1,h2,e',a,cs',h3,h4,h5,h6⟩:=get b L _ hb hx
    exact (r.frz k arr hk).2 _ L _ h2 h5 (by simp)
  · show at'.length ≤ bs.length
    rw [l.len]; exact Nat.le_refl _

def rnb (g:Nat → Nat):Blk → Blk
  | .cells e w a cs=>.cells e w a (rnvs g cs)
  | .dead=>.dead
  | .map _=>.dead
noncomputable def puts:Hp → List Nat → List Blk → Hp
  | h,b :: at',x :: xs=>puts (h.put b x) at' xs
  | h,_,_=>h
theorem puts_sz:∀ {at':List Nat} {xs:List Blk} {h:Hp},(puts h at' xs).sz = h.sz
  | [],_,_=>by simp [puts]
  | _ :: _,[],_=>by simp [puts]
  | b :: at',x :: xs,h=>by
    show (puts (h.put b x) at' xs).sz = _
    rw [puts_sz]; rfl
theorem puts_fl:∀ {at':List Nat} {xs:List Blk} {h:Hp},(puts h at' xs).fl = h.fl
  | [],_,_=>by simp [puts]
  | _ :: _,[],_=>by simp [puts]
  | b :: at',x :: xs,h=>by
    show (puts (h.put b x) at' xs).fl = _
    rw [puts_fl]; rfl
theorem puts_out:∀ {at':List Nat} {xs:List Blk} {h:Hp} {b:Nat},b ∉ at' → (puts h at' xs).tr.get b = h.tr.get b
  | [],_,_,_,_=>by simp [puts]
  | _ :: _,[],_,_,_=>by simp [puts]
  | c :: at',x :: xs,h,b,hb=>by
    show (puts (h.put c x) at' xs).tr.get b = _
    rw [puts_out (fun hh=>hb (List.mem_cons_of_mem _ hh))]
    simp only [Hp.put,Tr.get_set]
    rw [if_neg (fun hh=>hb (by simp [hh]))]
theorem puts_in:∀ {at':List Nat} {xs:List Blk} {h:Hp} {i b:Nat},at'.Nodup → at'.length = xs.length → at'[i]? = some b → (puts h at' xs).tr.get b = xs[i]?
  | [],_,_,_,_,_,_,hi=>by simp at hi
  | _ :: _,[],_,_,_,_,hl,_=>by simp at hl
  | c :: at',x :: xs,h,0,b,hn,hl,hi=>by
    simp at hi; subst hi
    show (puts (h.put c x) at' xs).tr.get c = _
    rw [puts_out (List.nodup_cons.1 hn).1]
    simp [Hp.put,Tr.get_set]
  | c :: at',x :: xs,h,i + 1,b,hn,hl,hi=>by
    show (puts (h.put c x) at' xs).tr.get b = _
    rw [puts_in (List.nodup_cons.1 hn).2 (by simpa using hl) (by simpa using hi)]
    simp
noncomputable def backH (h:Hp) (at':List Nat) (bs2:List Blk):Hp:=pushs (puts h at' ((bs2.take at'.length).map (rnb (gAt at' h.sz)))) ((bs2.drop at'.length).map (rnb (gAt at' h.sz)))
def Ren.back (ρ ρ2:Ren) (at':List Nat) (d l:Nat):Ren:=⟨fun b=>if b < d then ρ b else ρ2 (b - d + at'.length),ρ2.frz,d + (l - at'.length)⟩
theorem backH_sz {h:Hp} {at':List Nat} {bs2:List Blk}:(backH h at' bs2).sz = h.sz + (bs2.length - at'.length):=by
  unfold backH; rw [pushs_sz,puts_sz]; simp
theorem backH_fl {h:Hp} {at':List Nat} {bs2:List Blk}:(backH h at' bs2).fl = h.fl:=by
  unfold backH; rw [pushs_fl,puts_fl]
theorem backH_old {h:Hp} {at':List Nat} {bs2:List Blk} {b:Nat} (hb:b < h.sz) (hm:b ∉ at'):(backH h at' bs2).tr.get b = h.tr.get b:=by
  unfold backH; rw [pushs_get,puts_sz,if_pos hb,puts_out hm]
theorem backH_in {h:Hp} {at':List Nat} {bs2:List Blk} (hn:at'.Nodup) (hl:at'.length ≤ bs2.length) (hlt:∀ b ∈ at',b < h.sz) {i:Nat} (hi:i < at'.length):(backH h at' bs2).tr.get (gAt at' h.sz i) = (bs2[i]?).map (rnb (gAt at' h.sz)):=by
  have hm:gAt at' h.sz i ∈ at':=Lent.mem hi
  unfold backH
  rw [pushs_get,puts_sz,if_pos (hlt _ hm),puts_in (i:=i) hn (by simp; omega) (by rw [gAt_lo hi]; exact List.getElem?_eq_getElem hi),List.getElem?_map,List.getElem?_take_of_lt hi]
theorem backH_new {h:Hp} {at':List Nat} {bs2:List Blk} {i:Nat} (hi:at'.length ≤ i) (hi2:i < bs2.length):(backH h at' bs2).tr.get (gAt at' h.sz i) = (bs2[i]?).map (rnb (gAt at' h.sz)):=by
  unfold backH
  rw [gAt_hi hi,pushs_get,puts_sz,if_neg (by omega),if_pos (by simp; omega),List.getElem?_map,List.getElem?_drop]
  rw [show at'.length + (h.sz + (i - at'.length) - h.sz) = i from by omega]
theorem Rel.back {ρ ρ2:Ren} {B:Nat → Prop} {h:Hp} {w w1:World} {at':List Nat} {bs bs2:List Blk} (r:Rel σ0 ρ B h w) (l:Lent h at' bs) (r2:Rel σ0 ρ2 (Bar ρ B h at') (mkH 0 bs2) w1) (hl:at'.length ≤ bs2.length)
    (he:∀ i,i < at'.length → ρ2 i = ρ.small at' h.sz i) (hp:∀ k,Bar ρ B h at' k → w1.heap[k]? = w.heap[k]?) (hw:w.heap.size ≤ w1.heap.size)
    (f1:∀ k a,ρ.frz k = some a → ρ2.frz k = some a) (f2:∀ k a,ρ2.frz k = some a → ρ.frz k = some a ∨ ¬ Bar ρ B h at' k):(∀ b L,ρ2 b = some L → ρ.back ρ2 at' h.sz bs2.length (gAt at' h.sz b) = some L) ∧ Rel σ0 (ρ.back ρ2 at' h.sz bs2.length) B (backH h at' bs2) w1:=by
  have hlt:∀ b ∈ at',b < h.sz:=by
    intro b hb
    obtain ⟨i,hi,rfl⟩:=List.getElem_of_mem hb
    have hi':i < bs.length:=by rw [← l.len]; exact hi
    obtain ⟨_,_,_,_,_,_,_,h6⟩:=l.blk i bs[i] (List.getElem?_eq_getElem hi')
    rwa [gAt_lo hi] at h6
  have up:∀ b L,ρ2 b = some L → ρ.back ρ2 at' h.sz bs2.length (gAt at' h.sz b) = some L:=by
    intro b L hb
    show (if gAt at' h.sz b < h.sz then ρ (gAt at' h.sz b) else ρ2 (gAt at' h.sz b - h.sz + at'.length)) = some L
    by_cases hbm:b < at'.length
    · rw [if_pos (hlt _ (Lent.mem hbm))]
      rw [he b hbm] at hb
      exact (small_some hb).2
    · rw [gAt_hi (by omega),if_neg (by omega),show h.sz + (b - at'.length) - h.sz + at'.length = b from by omega]
      exact hb
  refine ⟨up,?_⟩
  have nle:∀ b,b < ρ2.n → gAt at' h.sz b < h.sz + (bs2.length - at'.length):=by
    intro b hb
    have hb2:b < bs2.length:=Nat.lt_of_lt_of_le hb r2.dn
    by_cases hbm:b < at'.length
    · have:=hlt _ (Lent.mem (h:=h) hbm); omega
    · rw [gAt_hi (by omega)]; omega
  have le1:∀ b L,ρ b = some L → ρ.back ρ2 at' h.sz bs2.length b = some L:=by
    intro b L hb
    show (if b < h.sz then ρ b else _) = some L
    rw [if_pos (r.dom b L hb)]; exact hb
  have le2:ρ.le (ρ.back ρ2 at' h.sz bs2.length):=⟨le1,f1,Nat.le_trans r.dn (Nat.le_add_right _ _)⟩
  -- a block: an old one that stayed,or one of the small heap
  have split:∀ b L,ρ.back ρ2 at' h.sz bs2.length b = some L → (b ∉ at' ∧ ρ b = some L ∧ (backH h at' bs2).tr.get b = h.tr.get b) ∨
      ∃ c,b = gAt at' h.sz c ∧ ρ2 c = some L ∧ (backH h at' bs2).tr.get b = ((mkH 0 bs2).tr.get c).map (rnb (gAt at' h.sz)):=by
    intro b L hb
    have hb':(if b < h.sz then ρ b else ρ2 (b - h.sz + at'.length)) = some L:=hb
    by_cases hbs:b < h.sz
    · rw [if_pos hbs] at hb'
      by_cases hm:b ∈ at'
      · obtain ⟨i,hi,rfl⟩:=List.getElem_of_mem hm
        refine .inr ⟨i,(gAt_lo hi).symm,?_,?_⟩
        · rw [he i hi]
          show (if i < at'.length then ρ (gAt at' h.sz i) else none) = some L
          rw [if_pos hi,gAt_lo hi]; exact hb'
        · have:=backH_in (bs2:=bs2) l.nd hl hlt hi
          rw [gAt_lo hi] at this
          rw [this,mkH_get]
      · exact .inl ⟨hm,hb',backH_old hbs hm⟩
    · rw [if_neg hbs] at hb'
      have hc:b - h.sz + at'.length < bs2.length:=r2.dom _ L hb'
      have e:gAt at' h.sz (b - h.sz + at'.length) = b:=by rw [gAt_hi (by omega)]; omega
      refine .inr ⟨b - h.sz + at'.length,e.symm,hb',?_⟩
      have:=backH_new (h:=h) (at':=at') (bs2:=bs2) (i:=b - h.sz + at'.length) (by omega) hc
      rw [e] at this
      rw [this,mkH_get]
  have apart:∀ b L x c L2,b ∉ at' → ρ b = some L → h.tr.get b = some x → x ≠ .dead → ρ2 c = some L2 → L2.blk ≠ L.blk:=by
    intro b L x c L2 h1 h2 h3 h4 h5 h6
    exact r2.flr c L2 h5 (Nat.zero_le _) (.inr ⟨b,L,x,h2,h1,h3,h4,h6.symm⟩)
  have shc:∀ {o:Option Blk} {e:Nat} {w a:Bool} {cs:List AV},o.map (rnb (gAt at' h.sz)) = some (.cells e w a cs) → ∃ cs0,o = some (.cells e w a cs0) ∧ cs = rnvs (gAt at' h.sz) cs0:=by
    intro o e w a cs ho
    cases o with
    | none=>simp at ho
    | some x =>
      cases x with
      | cells e' w' a' cs'=>simp [rnb] at ho; obtain ⟨rfl,rfl,rfl,rfl⟩:=ho; exact ⟨_,rfl,rfl⟩
      | dead=>simp [rnb] at ho
      | map es=>simp [rnb] at ho
  have shn:∀ {o:Option Blk} {y:Blk},o.map (rnb (gAt at' h.sz)) = some y → y ≠ .dead → ∃ x,o = some x ∧ x ≠ .dead:=by
    intro o y ho hy
    cases o with
    | none=>simp at ho
    | some x =>
      refine ⟨x,rfl,fun hx=>?_⟩
      subst hx; simp [rnb] at ho; exact hy ho.symm
  have shm:∀ {o:Option Blk} {es:List (AV × AV)},o.map (rnb (gAt at' h.sz)) = some (.map es) → False:=by
    intro o es ho
    cases o with
    | none=>simp at ho
    | some x=>cases x <;> simp [rnb] at ho
  refine ⟨fun b L hb=>?_,?_,?_,?_,?_,?_,?_,base_le r.base hw,?_,?_⟩
  · rw [backH_sz]
    have hb':(if b < h.sz then ρ b else ρ2 (b - h.sz + at'.length)) = some L:=hb
    by_cases hbs:b < h.sz
    · omega
    · rw [if_neg hbs] at hb'
      have hc:b - h.sz + at'.length < bs2.length:=r2.dom _ L hb'
      omega
  · intro b L e wf af cs hb hg
    rcases split b L hb with ⟨h1,h2,h3⟩ | ⟨c,rfl,h2,h3⟩
    · rw [h3] at hg
      obtain ⟨q1,c,ty,fz,q2,q3,q4,q5,q6⟩:=r.cells b L e wf af cs h2 hg
      exact ⟨q1,c,ty,fz,by rw [hp _ (.inr ⟨b,L,_,h2,h1,hg,by simp,rfl⟩)]; exact q2,q3,q4,fun j v hv=>let ⟨v',g7,g8⟩:=q5 j v hv; ⟨v',g7,g8.mono le2⟩,q6⟩
    · rw [h3] at hg
      obtain ⟨cs0,g1,rfl⟩:=shc hg
      obtain ⟨q1,c',ty,fz,q2,q3,q4,q5,q6⟩:=r2.cells c L e wf af cs0 h2 g1
      refine ⟨q1,c',ty,fz,q2,q3,by rw [rnvs_length]; exact q4,fun j v hv=>?_,q6⟩
      rw [rnvs_get] at hv
      cases hj:cs0[j]? with
      | none=>rw [hj] at hv; simp at hv
      | some v0 =>
        rw [hj] at hv; simp at hv; subst hv
        obtain ⟨v',g7,g8⟩:=q5 j v0 hj
        exact ⟨v',g7,VR.rn (ρ3:=ρ.back ρ2 at' h.sz bs2.length) up (fun _ _ h=>h) nle g8⟩
  · intro b L es hb hg
    rcases split b L hb with ⟨h1,h2,h3⟩ | ⟨c,rfl,h2,h3⟩
    · rw [h3] at hg
      obtain ⟨q1,o,q2,q3⟩:=r.maps b L es h2 hg
      exact ⟨q1,o,by rw [hp _ (.inr ⟨b,L,_,h2,h1,hg,by simp,rfl⟩)]; exact q2,q3.mono le2⟩
    · rw [h3] at hg; exact (shm hg).elim
  · intro b L e af cs hb hg b' L' x hb' hx hd hee
    rcases split b L hb with ⟨h1,h2,h3⟩ | ⟨c,rfl,h2,h3⟩ <;> rcases split b' L' hb' with ⟨i1,i2,i3⟩ | ⟨c',rfl,i2,i3⟩
    · rw [h3] at hg; rw [i3] at hx
      exact r.excl b L e af cs h2 hg b' L' x i2 hx hd hee
    · rw [h3] at hg
      exact absurd hee (apart b L _ c' L' h1 h2 hg (by simp) i2)
    · rw [i3] at hx
      exact absurd hee.symm (apart b' L' _ c L i1 i2 hx hd h2)
    · rw [h3] at hg; rw [i3] at hx
      obtain ⟨cs0,g1,rfl⟩:=shc hg
      obtain ⟨x0,g2,g3⟩:=shn hx hd
      rw [r2.excl c L e af cs0 h2 g1 c' L' x0 i2 g2 g3 hee]
  · intro b L es hb hg b' L' x hb' hx hd hee
    rcases split b L hb with ⟨h1,h2,h3⟩ | ⟨c,rfl,h2,h3⟩
    · rw [h3] at hg
      rcases split b' L' hb' with ⟨i1,i2,i3⟩ | ⟨c',rfl,i2,i3⟩
      · rw [i3] at hx
        exact r.exclm b L es h2 hg b' L' x i2 hx hd hee
      · exact absurd hee (apart b L _ c' L' h1 h2 hg (by simp) i2)
    · rw [h3] at hg; exact (shm hg).elim
  · intro b L e wf cs hb hg b' L' e' wf' af' cs' hb' hx hee
    rcases split b L hb with ⟨h1,h2,h3⟩ | ⟨c,rfl,h2,h3⟩ <;> rcases split b' L' hb' with ⟨i1,i2,i3⟩ | ⟨c',rfl,i2,i3⟩
    · rw [h3] at hg; rw [i3] at hx
      exact r.app b L e wf cs h2 hg b' L' e' wf' af' cs' i2 hx hee
    · rw [h3] at hg
      exact absurd hee (apart b L _ c' L' h1 h2 hg (by simp) i2)
    · rw [i3] at hx
      exact absurd hee.symm (apart b' L' _ c L i1 i2 hx (by simp) h2)
    · rw [h3] at hg; rw [i3] at hx
      obtain ⟨cs0,g1,rfl⟩:=shc hg
      obtain ⟨cs1,g2,rfl⟩:=shc hx
      have q:=r2.app c L e wf cs0 h2 g1 c' L' e' wf' af' cs1 i2 g2 hee
      rw [rnvs_length,rnvs_length]
      exact ⟨q.1,fun hh=>by rw [q.2 hh]⟩
  · intro b L hb hf hB
    rw [backH_fl] at hf
    rcases split b L hb with ⟨h1,h2,h3⟩ | ⟨c,rfl,h2,h3⟩
    · exact r.flr b L h2 hf hB
    · exact r2.flr c L h2 (Nat.zero_le _) (.inl hB)
  · intro k arr hk
    refine ⟨(r2.frz k arr hk).1,fun b L x hb hx hd=>?_⟩
    rcases split b L hb with ⟨h1,h2,h3⟩ | ⟨c,rfl,h2,h3⟩
    · rw [h3] at hx
      rcases f2 k arr hk with g | g
      · exact (r.frz k arr g).2 b L x h2 hx hd
      · exact fun hh=>g (.inr ⟨b,L,x,h2,h1,hx,hd,hh⟩)
    · rw [h3] at hx
      obtain ⟨x0,g2,g3⟩:=shn hx hd
      exact (r2.frz k arr hk).2 c L x0 h2 g2 g3
  · show h.sz + (bs2.length - at'.length) ≤ _
    rw [backH_sz]; exact Nat.le_refl _
def UpdZ (m:Nat) (v:AV) (bs2:List Blk) (v':AV) (h':Hp):Prop:=h'.fl = 0 → ∃ src:List Nat,NV (rl src h'.sz) bs2.length v' v ∧ BWs h' (rl src h'.sz) bs2.length src bs2 ∧ (src.filter fun b=>decide (b < h'.sz)).Nodup ∧ ∀ b,b < m → rl src h'.sz b = b
def UpdW (m:Nat) (v:AV) (bs2:List Blk) (v':AV) (h':Hp):Prop:=h'.fl = 0 → Wk m (mkT [(0,v')]) h' (mkT [(0,v)]) (mkH 0 bs2)
theorem UpdZ.w {m:Nat} {v:AV} {bs2:List Blk} {v':AV} {h':Hp} (hz:UpdZ m v bs2 v' h') (hle:m ≤ bs2.length):UpdW m v bs2 v' h':=by
  intro hfl
  obtain ⟨src,s1,s2,s3,s4⟩:=hz hfl
  exact Wk.mkn [(0,v)] bs2 src ⟨⟨v',by simp [mkT,Tr.get_set],s1⟩,trivial⟩ s2 s3 hfl hle s4
def Upd (P:Program) (f:Nat) (vs:List AV) (bs:List Blk) (v:AV) (bs2:List Blk):Prop :=
  bnds bs.length vs = true ∧ bs.length ≤ bs2.length ∧ SC P f vs (mkH 0 bs) (UpdW bs.length v bs2)
theorem Upd.mkS {f:Nat} {i:IFn} {vs:List AV} {v:AV} {bs bs2:List Blk} (hc:chkFn P f i = true) (hb:bnds bs.length vs = true) (hl:bs.length ≤ bs2.length) (hV:S P bs.length i.body (endX i.res (UpdW bs.length v bs2)) (argsT vs 0 .leaf) (mkH 0 bs)):Upd P f vs bs v bs2 :=
  ⟨hb,hl,SC.mk hc hV⟩
theorem Upd.mk {f:Nat} {i:IFn} {vs:List AV} {v:AV} {bs bs2:List Blk} (hc:chkFn P f i = true) (hb:bnds bs.length vs = true) (hl:bs.length ≤ bs2.length) (hV:V P bs.length i.body (endX i.res (UpdZ bs.length v bs2)) (argsT vs 0 .leaf) (mkH 0 bs)):Upd P f vs bs v bs2 :=
  ⟨hb,hl,(SC.mk hc (V_sound hV)).mono fun _ _ hz=>hz.w hl⟩
theorem Upd.sc {f:Nat} {vs:List AV} {bs bs2:List Blk} {v:AV} {h:Hp} {k:AV → Hp → Prop} (at':List Nat) (hu:Upd P f vs bs v bs2) (l:Lent h at' bs) (hk:k (rnv (gAt at' h.sz) v) (backH h at' bs2)):SC P f (rnvs (gAt at' h.sz) vs) h k:=by
  obtain ⟨hb,hle,hu⟩:=hu
  refine ⟨hu.1,fun ρ B w args r ha=>?_⟩
  have hle':at'.length ≤ bs2.length:=by rw [l.len]; exact hle
  have ha':VRs σ0 (ρ.small at' h.sz) vs args.toList:=VRs.nr (ρ:=ρ) (ρs:=ρ.small at' h.sz) (g:=gAt at' h.sz) (m:=bs.length) (fun b L hbm hbL=>by
    show (if b < at'.length then ρ (gAt at' h.sz b) else none) = some L
    rw [if_pos (by rw [l.len]; exact hbm)]; exact hbL) rfl l.len hb ha
  refine CallsX.mono (hu.2 (ρ.small at' h.sz) (Bar ρ B h at') w args (r.small l) ha') ?_
  rintro e w1 ⟨v0,v',h1,ρ1,rfl,g1,g2,g3,g4⟩
  have hw:Wk bs.length (mkT [(0,v0)]) h1 (mkT [(0,v)]) (mkH 0 bs2):=g1 g4.fl
  obtain ⟨ρ2,t2,r2,k2⟩:=hw ρ1 (Bar ρ B h at') w1 #[v'] (fun j x hj=>by
    have:=mkT_get hj
    simp at this
    obtain ⟨rfl,rfl⟩:=this
    exact ⟨by simp,by simpa using g2⟩) g3
  have hv2:VR σ0 ρ2 v v':=by
    have:=(t2 0 v (by simp [mkT,Tr.get_set])).2
    simpa using this
  have he:∀ i,i < at'.length → ρ2 i = ρ.small at' h.sz i:=fun i hi=>(k2.ext i (by rw [← l.len]; exact hi)).trans (g4.ext i (by rw [mkH_sz,← l.len]; exact hi))
  have f1:∀ k a,ρ.frz k = some a → ρ2.frz k = some a:=fun k a hk=>k2.frz k a (g4.frz k a hk)
  have f2:∀ k a,ρ2.frz k = some a → ρ.frz k = some a ∨ ¬ Bar ρ B h at' k:=fun k a hk=>(k2.fnew k a hk).elim (g4.fnew k a) .inr
  obtain ⟨up,big⟩:=Rel.back r l r2 hle' he g4.pres g4.wle f1 f2
  have nle:∀ b,b < ρ2.n → gAt at' h.sz b < (ρ.back ρ2 at' h.sz bs2.length).n:=by
    intro b hb
    have hb2:b < bs2.length:=Nat.lt_of_lt_of_le hb r2.dn
    show _ < h.sz + (bs2.length - at'.length)
    by_cases hbm:b < at'.length
    · have hbm':b < bs.length:=by rw [← l.len]; exact hbm
      obtain ⟨_,_,_,_,_,_,_,h6⟩:=l.blk b bs[b] (List.getElem?_eq_getElem hbm')
      omega
    · rw [gAt_hi (by omega)]; omega
  refine ⟨_,v',_,ρ.back ρ2 at' h.sz bs2.length,rfl,hk,VR.rn up (fun _ _ h=>h) nle hv2,big,?_⟩
  refine ⟨fun b hb=>?_,by rw [backH_sz]; omega,backH_fl,fun b hf hb=>backH_old hb (fun hm=>?_),fun k hk=>g4.pres k (.inl hk),g4.wle,g4.io,f1,fun k a hk=>(f2 k a hk).imp id (fun hh hB=>hh (.inl hB)),Nat.le_trans r.dn (Nat.le_add_right _ _)⟩
  · show (if b < h.sz then ρ b else _) = ρ b
    rw [if_pos hb]
  · obtain ⟨i,hi,rfl⟩:=List.getElem_of_mem hm
    have hi':i < bs.length:=by rw [← l.len]; exact hi
    obtain ⟨_,_,_,_,_,_,h5,_⟩:=l.blk i bs[i] (List.getElem?_eq_getElem hi')
    rw [gAt_lo hi] at h5
    omega
end Go.Kc
end
