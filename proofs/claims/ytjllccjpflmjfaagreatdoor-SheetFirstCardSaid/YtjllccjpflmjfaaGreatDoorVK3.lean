/- Part 3 of the proof. No condition. -/
import Derived.Test.YtjllccjpflmjfaaGreatDoorVK2
import Derived.Test.YtjllccjpflmjfaaGreatDoorProg
import Derived.Laws.Externs
import Derived.Lib.Overlaps
import GoSem.ClaimChange
import Derived.ChangeArms
import Derived.ReadAgain
import Derived.ChangeOld
import Derived.ChangeBears
import Derived.OpenShut
import Derived.RecoverIn
import Derived.SizedLaws
import Derived.Lib.Bytealg
set_option maxHeartbeats 4000000
set_option maxRecDepth 1000000
set_option linter.unusedSectionVars false
set_option linter.unusedSimpArgs false
set_option linter.unusedVariables false
set_option linter.unnecessarySimpa false
set_option linter.defProp false
namespace Go.Kc
noncomputable section
section
variable [Cur]
variable {P:Program}{n:Nat}{t:Tr AV}{h:Hp}{k:AV->Hp->Prop}
section
variable {r:Nat->Nat}{m:Nat}{v v':AV}{vs vs':List AV}
omit [Cur] in
def qyW:NV r m v .undef↔True:=iff_true_intro (.undef _)
omit [Cur] in
def qLT{x y:Bool}:NV r m (.b x) (.b y)↔x=y:=⟨λh=>by cases h;rfl,λh=>by subst h;exact .clo _ rfl⟩
omit [Cur] in
def qLU{q q':IntKind}{x y:Int}:NV r m (.i q x) (.i q' y)↔q=q'/\x=y:=⟨λh=>by cases h<;>simp_all,fun⟨h,h'⟩=>Gh⟩
omit [Cur] in
def qLV{x y:List UInt8}:NV r m (.s x) (.s y)↔x=y:=⟨λh=>by cases h;rfl,λh=>by subst h;exact .clo _ rfl⟩
omit [Cur] in
def qCv:NV r m .nilp .nilp↔True:=iff_true_intro (.clo _ rfl)
omit [Cur] in
def qCw:NV r m .nils .nils↔True:=iff_true_intro (.clo _ rfl)
omit [Cur] in
def qCs:NV r m .nilf .nilf↔True:=iff_true_intro (.clo _ rfl)
omit [Cur] in
def qCt:NV r m .nili .nili↔True:=iff_true_intro (.clo _ rfl)
omit [Cur] in
def qCu:NV r m .nilm .nilm↔True:=iff_true_intro (.clo _ rfl)
omit [Cur] in
def qKo:NV r m .e0 .e0↔True:=iff_true_intro (.clo _ rfl)
omit [Cur] in
def qKr:NV r m .nz .nz↔True:=iff_true_intro (.clo _ rfl)
omit [Cur] in
def qGR{x:Nat}{cs:List AV}:NV r m .e0 (.fz x cs)↔x=0/\cs=[]:=⟨λh=>by cases h<;>simp_all,fun⟨h,h'⟩=>by subst h h';exact .e0z⟩
omit [Cur] in
def qyV{b' x':Nat}:NV r m .e0 (.own b' x')↔b'<m/\x'=0:=⟨λh=>by
  cases h<;>simp_all,fun⟨h1,h2⟩=>by subst h2;exact .e0own _ h1⟩
omit [Cur] in
def qGW{b b' o x c x':Nat}{l:Bool}:NV r m (.sl b o x c l) (.own b' x')↔b'<m/\x=0/\c=0/\l=false/\x'=0:=⟨λh=>by
  cases h<;>simp_all,fun⟨h1,h2,h3,h4,h5⟩=>by subst h2 h3 h4 h5;exact .slz _ _ _ h1⟩
omit [Cur] in
def qKq{x y:Nat}{cs ds:List AV}:NV r m (.fz x cs) (.fz y ds)↔x=y/\cs=ds:=⟨λh=>by cases h<;>simp_all,fun⟨h,h'⟩=>Gh⟩
omit [Cur] in
def qKs{x y:Nat}{cs ds:List AV}:NV r m (.pf cs x) (.pf ds y)↔cs=ds/\x=y:=⟨λh=>by cases h<;>simp_all,fun⟨h,h'⟩=>Gh⟩
omit [Cur] in
def qCx{x:Nat}{cs:List AV}:NV r m .nils (.fz x cs)↔x=0/\cs=[]:=⟨λh=>by cases h<;>simp_all,fun⟨h,h'⟩=>by subst h h';exact .nilz⟩
omit [Cur] in
def qGV{b b' o o':Nat}:NV r m (.ptr b o) (.ptr b' o')↔r b'=b/\b'<m/\o=o':=⟨λh=>by
  cases h with
  | clo _ hc=>cases hc
  | ptr _ _ _ h1 h2=>exact Ac,fun⟨h1,h2,h3⟩=>by subst h3;exact .ptr _ _ _ h1 h2⟩
omit [Cur] in
def qKt{b b' o o' x x' c c':Nat}{l l':Bool}:NV r m (.sl b o x c l) (.sl b' o' x' c' l')↔r b'=b/\b'<m/\o=o'/\x=x'/\c=c'/\l=l':=⟨λh=>by
  cases h with
  | clo _ hc=>cases hc
  | sl _ _ _ _ _ _ h1 h2=>exact Ad,fun⟨h1,h2,h3,h4,h5,h6⟩=>by subst h3 h4 h5 h6;exact .sl _ _ _ _ _ _ h1 h2⟩
omit [Cur] in
def qGU{b b' x x':Nat}:NV r m (.own b x) (.own b' x')↔r b'=b/\b'<m/\x=x':=⟨λh=>by
  cases h with
  | clo _ hc=>cases hc
  | own _ _ _ h1 h2=>exact Ac,fun⟨h1,h2,h3⟩=>by subst h3;exact .own _ _ _ h1 h2⟩
omit [Cur] in
def qvw{b' x':Nat}:NV r m .nils (.own b' x')↔b'<m/\x'=0:=⟨λh=>by
  cases h<;>simp_all,fun⟨h1,h2⟩=>by subst h2;exact .nilown _ h1⟩
omit [Cur] in
def qGT{b b':Nat}:NV r m (.map b) (.map b')↔r b'=b/\b'<m:=⟨λh=>by
  cases h with
  | clo _ hc=>cases hc
  | map _ _ h1 h2=>exact Ac,fun⟨h1,h2⟩=>.map _ _ h1 h2⟩
omit [Cur] in
def qKu{b b':Nat}:NV r m (.yl b) (.yl b')↔r b'=b/\b'<m:=⟨λh=>by
  cases h with
  | clo _ hc=>cases hc
  | yl _ _ h1 h2=>exact Ac,fun⟨h1,h2⟩=>.yl _ _ h1 h2⟩
omit [Cur] in
def qCy:NVs r m [] []↔True:=iff_true_intro .nil
omit [Cur] in
def qyX:NVs r m (v::vs) (v'::vs')↔NV r m v v'/\NVs r m vs vs':=⟨λh=>by
  cases h<;>simp_all,λh=>.cons _ _ _ _ h.1 h.2⟩
omit [Cur] in
def qGQ{cs cs':List AV}:NV r m (.agg cs) (.agg cs')↔NVs r m cs cs':=⟨λh=>by
  cases h with
  | clo _ hc=>exact NVs.refl Dt
  | agg _ _ h1=>exact h1,λh=>.agg _ _ h⟩
omit [Cur] in
def qGX{cs cs':List AV}:NV r m (.tup cs) (.tup cs')↔NVs r m cs cs':=⟨λh=>by
  cases h with
  | clo _ hc=>exact NVs.refl Dt
  | tup _ _ h1=>exact h1,λh=>.tup _ _ h⟩
omit [Cur] in
def qKp{f f':Nat}{a a' c c':List AV}:NV r m (.fn f a c) (.fn f' a' c')↔f=f'/\NVs r m a a'/\NVs r m c c':=⟨λh=>by
  cases h with
  | clo _ hc =>
   simp only[clo,zzB]at hc
   simp_all[NVs.refl]
  | fn _ _ _ _ _ h1 h2=>exact Ad,fun⟨h1,h2,h3⟩=>by subst h1;exact .fn _ _ _ _ _ h2 h3⟩
omit [Cur] in
def qGS{f f':Nat}:NV r m (.ifc f v) (.ifc f' v')↔f=f'/\NV r m v v':=⟨λh=>by
  cases h with
  | clo _ hc=>exact⟨rfl,.clo _ Dt⟩
  | ifc _ _ _ h1=>exact Ad,fun⟨h1,h2⟩=>by subst h1;exact .ifc _ _ _ h2⟩
omit [Cur] in
def qDE:TWs t r m []↔True:=Iff.rfl
omit [Cur] in
def qAa{p:Nat×AV}{l:List (Nat×AV)}:TWs t r m (p::l)↔evO (t.get p.1) (λv=>NV r m v p.2)/\TWs t r m l:=Iff.rfl
omit [Cur] in
def qA1:BWs h r m [] []↔True:=Iff.rfl
omit [Cur] in
def qwN{b:Nat}{x:Blk}{bs:List Nat}{xs:List Blk}:BWs h r m (b::bs) (x::xs)↔BW h r m b x/\BWs h r m bs xs:=Iff.rfl
omit [Cur] in
def qFa{b:Nat}{x:Blk}(hb:h.sz<=b):BW h r m b x↔True:=iff_true_intro (.inl hb)
omit [Cur] in
def qA0{b:Nat}:BW h r m b .dead↔True:=iff_true_intro (.inr (.inl rfl))
omit [Cur] in
def qFb{b e:Nat}{w a:Bool}{cs':List AV}(hb:b<h.sz):BW h r m b (.cells e w a cs')↔evB (h.tr.get b) (λx=>qa3 x (λe0 w0 a0 cs=>e0=e/\(w=true->w0=true)/\(a=true->a0=true)/\NVs r m cs cs')):=by
 constructor
 .rintro (h1|h1|⟨e',w0,a0,cs,w',a',cs'',h1,h2,h3,h4,h5⟩|⟨es,es',h1,h2,h3⟩)
  .exact Ac
  .cases h1
  .cases h2;exact⟨_,h1,rfl,h3,h4,h5⟩
  exact Ad
 .rintro⟨x,h1,h2⟩;cases x with
  | cells e0 w0 a0 cs =>
   obtain⟨rfl,h3,h4,h5⟩:=h2;exact .inr Ah
  | dead=>exact Fk
  | map es=>exact Fk
end
omit [Cur] in
def qhQ{b d:Nat}{l:List Nat}:rl (b::l) d 0=b:=rfl
omit [Cur] in
def qL6{b d i:Nat}{l:List Nat}:rl (b::l) d (i+1)=rl l d i:=rfl
section
variable {v v':AV}{vs vs':List AV}
omit [Cur] in
def qxP:Frz h v .undef↔True:=iff_true_intro (.undef _)
omit [Cur] in
def qLH{x y:Bool}:Frz h (.b x) (.b y)↔x=y:=⟨λh=>by cases h;rfl,λh=>by subst h;exact .b _⟩
omit [Cur] in
theorem qJR{q q':IntKind}{x y:Int}:Frz h (.i q x) (.i q' y)↔q=q'/\x=y:=⟨λh=>by cases h<;>simp_all,fun⟨h,h'⟩=>by subst h h';exact .i _ _⟩
omit [Cur] in
def qLJ{x y:List UInt8}:Frz h (.s x) (.s y)↔x=y:=⟨λh=>by cases h;rfl,λh=>by subst h;exact .s _⟩
omit [Cur] in
def qBM:Frz h .nilp .nilp↔True:=iff_true_intro .nilp
omit [Cur] in
def qBN:Frz h .nils .nils↔True:=iff_true_intro .nils
omit [Cur] in
def qBJ:Frz h .nilf .nilf↔True:=iff_true_intro .nilf
omit [Cur] in
def qBK:Frz h .nili .nili↔True:=iff_true_intro .nili
omit [Cur] in
def qBL:Frz h .nilm .nilm↔True:=iff_true_intro .nilm
omit [Cur] in
def qJP:Frz h .e0 .e0↔True:=iff_true_intro .e0
omit [Cur] in
def qJS:Frz h .nz .nz↔True:=iff_true_intro .nz
omit [Cur] in
def qFS{x:Nat}{cs:List AV}:Frz h .e0 (.fz x cs)↔x=0/\cs=[]:=⟨λh=>by cases h<;>simp_all,fun⟨h,h'⟩=>by subst h h';exact .e0z⟩
omit [Cur] in
def qJQ{x y:Nat}{cs ds:List AV}:Frz h (.fz x cs) (.fz y ds)↔x=y/\cs=ds:=⟨λh=>by cases h<;>simp_all,fun⟨h,h'⟩=>by subst h h';exact .fz _ _⟩
omit [Cur] in
def qJT{x y:Nat}{cs ds:List AV}:Frz h (.pf cs x) (.pf ds y)↔cs=ds/\x=y:=⟨λh=>by cases h<;>simp_all,fun⟨h,h'⟩=>by subst h h';exact .pf _ _⟩
omit [Cur] in
def qBO{x:Nat}{cs:List AV}:Frz h .nils (.fz x cs)↔x=0/\cs=[]:=⟨λh=>by cases h<;>simp_all,fun⟨h,h'⟩=>by subst h h';exact .nilz⟩
omit [Cur] in
theorem qf2:Frzs h [] []↔True:=iff_true_intro .nil
omit [Cur] in
theorem qaU:Frzs h (v::vs) (v'::vs')↔Frz h v v'/\Frzs h vs vs':=⟨λh=>by
  cases h<;>simp_all,λh=>.cons _ _ _ _ h.1 h.2⟩
omit [Cur] in
def qFR{cs cs':List AV}:Frz h (.agg cs) (.agg cs')↔Frzs h cs cs':=⟨λh=>by cases h<;>grind,λh=>.agg _ _ h⟩
omit [Cur] in
def qFU{cs cs':List AV}:Frz h (.tup cs) (.tup cs')↔Frzs h cs cs':=⟨λh=>by cases h<;>grind,λh=>.tup _ _ h⟩
omit [Cur] in
def qxQ{f f':Nat}{a a' c c':List AV}:Frz h (.fn f a c) (.fn f' a' c')↔f=f'/\Frzs h a a'/\Frzs h c c':=⟨λh=>by
  cases h<;>simp_all,fun⟨h1,h2,h3⟩=>by subst h1;exact .fn _ _ _ _ _ h2 h3⟩
omit [Cur] in
def qFT{f f':Nat}:Frz h (.ifc f v) (.ifc f' v')↔f=f'/\Frz h v v':=⟨λh=>by
  cases h<;>simp_all,fun⟨h1,h2⟩=>by subst h1;exact .ifc _ _ _ h2⟩
omit [Cur] in
def qxN{b x y:Nat}{cs':List AV}:Frz h (.own b x) (.fz y cs')↔x=y/\evB (h.tr.get b) (λz=>qa3 z (λ_ w _ ys=>w=true/\(x=0->ys=[])/\Frzs h ys cs')):=by
 constructor
 .intro hh;cases hh with
  | own _ _ e af ys _ hb h0 h1=>exact⟨rfl,_,hb,rfl,h0,h1⟩
 .rintro⟨rfl,z,h1,h2⟩;cases z with
  | cells e w af ys =>
   obtain⟨rfl,h3,h4⟩:=h2;exact .own _ _ e af ys _ h1 h3 h4
  | dead=>exact Fk
  | map es=>exact Fk
omit [Cur] in
def qxO{b x y:Nat}{cs':List AV}:Frz h (.ptr b x) (.pf cs' y)↔x=y/\evB (h.tr.get b) (λz=>qa3 z (λ_ w _ ys=>w=true/\Frzs h ys cs')):=by
 constructor
 .intro hh;cases hh with
  | ptr _ _ e af ys _ hb h1=>exact⟨rfl,_,hb,rfl,h1⟩
 .rintro⟨rfl,z,h1,h2⟩;cases z with
  | cells e w af ys =>
   obtain⟨rfl,h4⟩:=h2;exact .ptr _ _ e af ys _ h1 h4
  | dead=>exact Fk
  | map es=>exact Fk
omit [Cur] in
def Frz.cut{b o x c:Nat}{l:Bool}{y:Nat}{cs':List AV}(esz:Nat)(hx:x=y)(hc:x<=c)(hg:evB (h.tr.get b) (λz=>qa3 z (λ_ w _ cs=>w=true/\o+x*esz<=cs.length/\Frzs h ((cs.drop o).take (x*esz)) cs'))):Frz h (.sl b o x c l) (.fz y cs'):=by
 subst hx;obtain⟨z,h1,h2⟩:=hg;cases z with
 | cells e w af cs =>
  obtain⟨rfl,h3,h4⟩:=h2;exact .sl _ _ _ _ _ e af cs (x*esz) _ h1 hc h3 (λhh=>by rw[hh]at hc;exact Ad) h4
 | dead=>exact Fk
 | map es=>exact Fk
end
mutual
theorem Frz.self:∀{v:AV},clo v=true->Frz h v v
 | .undef,_=>.undef _
 | .b _,_=>.b _
 | .i _ _,_=>.i _ _
 | .s _,_=>.s _
 | .nilp,_=>.nilp
 | .ptr _ _,hc=>B3
 | .nils,_=>.nils
 | .sl _ _ _ _ _,hc=>B3
 | .nilf,_=>.nilf
 | .fn _ _ _,hc=>by
  simp only[clo,zzB]at hc;exact .fn _ _ _ _ _ (Frzs.self hc.1) (Frzs.self hc.2)
 | .nili,_=>.nili
 | .ifc _ _,hc=>.ifc _ _ _ (Frz.self Dt)
 | .agg _,hc=>.agg _ _ (Frzs.self Dt)
 | .tup _,hc=>.tup _ _ (Frzs.self Dt)
 | .nilm,_=>.nilm
 | .map _,hc=>B3
 | .fz _ _,_=>.fz _ _
 | .pf _ _,_=>.pf _ _
 | .e0,_=>.e0
 | .nz,_=>.nz
 | .own _ _,hc=>B3
 | .sym _,hc=>B3
 | .yl _,hc=>B3
 | .lp _,hc=>B3
theorem Frzs.self:∀{vs:List AV},qu vs=true->Frzs h vs vs
 | [],_=>.nil
 | v::vs,hc=>by
  simp only[qu,zzB]at hc;exact .cons _ _ _ _ (Frz.self hc.1) (Frzs.self hc.2)
end
omit [Cur] in
@[congr] theorem qF6 {kd:Option IntKind}{i:AV}{p:Prop}{mk:Prop}(_:z8=mk):qlJ qB kd i p=qlJ qB kd i p:=rfl
@[congr] theorem qGp {b:Nat}{k:List (AV×AV)->Prop}{mk:Prop}(_:z8=mk):qip h b k=qip h b k:=rfl
@[congr] theorem qB2 {es:List (AV×AV)}{p:Prop}{mk:Prop}(_:z8=mk):qeZ es p=qeZ es p:=rfl
theorem qJ5{a:List UInt8}{p:Prop}:qlJ qB none (.s a) p↔p:=Iff.rfl
omit [Cur] in
def qJ4{q:IntKind}{z:Int}{p:Prop}:qlJ qB (some q) (.i q z) p↔p:=by
 show qn (decide (q=q)) p↔p;rw[qc];simp
omit [Cur] in
def qvb{p:Prop}:qeZ [] p↔p:=Iff.rfl
omit [Cur] in
def qB5{a:List UInt8}{v:AV}{es:List (AV×AV)}{p:Prop}:qeZ ((.s a,v)::es) p↔p:=Iff.rfl
omit [Cur] in
def qB4{q:IntKind}{z:Int}{v:AV}{es:List (AV×AV)}{p:Prop}:qeZ ((.i q z,v)::es) p↔p:=Iff.rfl
def qrh(x:Blk)(k:List (AV×AV)->Prop):Prop:=match x with | .map es=>k es|_=>False
omit [Cur] in
@[congr] theorem qEg {x x':Blk}{k:List (AV×AV)->Prop}{mk:Prop}(_:z8=mk) (h:x=x'):qrh x k=qrh x' k:=Hr
theorem qov{es:List (AV×AV)}{k:List (AV×AV)->Prop}:qrh (.map es) k↔k es:=Iff.rfl
omit [Cur] in
def qKf{b:Nat}{k:List (AV×AV)->Prop}:qip h b k↔evB (h.tr.get b) (λx=>qrh x (λes=>qeZ es (k es))):=by
 unfold qip;refine(Tr.getK_iff _ _ _).trans (iff_of_eq (congrArg _ (funext λx=>congrArg _ ?_)))
 cases x<;>rfl
omit [Cur] in
def qqH{i:AV}{k:Option AV->Prop}:qcO qB i [] k↔k none:=Iff.rfl
omit [Cur] in
def qFM{i a:List UInt8}{v:AV}{es:List (AV×AV)}{k:Option AV->Prop}:qcO qB (.s i) ((.s a,v)::es) k↔if i=a then k (some v)else qcO qB (.s i) es k:=by
 show qX (eqS i a) (λr=>Bool.rec (motive:=λ_=>Prop) (qcO qB (.s i) es k) (k (some v)) r)↔_
 rw[qV,qe9,qcg];simp
omit [Cur] in
def qxG{q:IntKind}{i a:Int}{v:AV}{es:List (AV×AV)}{k:Option AV->Prop}:qcO qB (.i q i) ((.i q a,v)::es) k↔if i=a then k (some v)else qcO qB (.i q i) es k:=by
 show qn (decide (q=q)) (qX (eqI i a) (λr=>Bool.rec (motive:=λ_=>Prop) (qcO qB (.i q i) es k) (k (some v)) r))↔_
 rw[qc,qV,qe9,qmA];simp
omit [Cur] in
def quh{i v:AV}{k:List (AV×AV)->Prop}:qhT qB i v [] k↔k [(i,v)]:=Iff.rfl
omit [Cur] in
def qK0{i a:List UInt8}{u v:AV}{es:List (AV×AV)}{k:List (AV×AV)->Prop}:qhT qB (.s i) u ((.s a,v)::es) k↔if i=a then k ((.s i,u)::es)else qhT qB (.s i) u es (λl=>k ((.s a,v)::l)):=by
 show qX (eqS i a) (λr=>Bool.rec (motive:=λ_=>Prop) (qhT qB (.s i) u es (λl=>k ((.s a,v)::l))) (k ((.s i,u)::es)) r)↔_
 rw[qV,qe9,qcg];simp
omit [Cur] in
def qEw{q:IntKind}{i a:Int}{u v:AV}{es:List (AV×AV)}{k:List (AV×AV)->Prop}:qhT qB (.i q i) u ((.i q a,v)::es) k↔if i=a then k ((.i q i,u)::es)else qhT qB (.i q i) u es (λl=>k ((.i q a,v)::l)):=by
 show qn (decide (q=q)) (qX (eqI i a) (λr=>Bool.rec (motive:=λ_=>Prop) (qhT qB (.i q i) u es (λl=>k ((.i q a,v)::l))) (k ((.i q i,u)::es)) r))↔_
 rw[qc,qV,qe9,qmA];simp
omit [Cur] in
@[congr] theorem qEQ {ok:Bool}{z:AV}{v v':Option AV}{k:AV->Prop}{mk:Prop}(_:z8=mk) (h:v=v'):qik ok z v k=qik ok z v' k:=Hr
theorem qwp{z:AV}{k:AV->Prop}:qik false z none k↔k z:=Iff.rfl
omit [Cur] in
def qut{z:AV}{k:AV->Prop}:qik true z none k↔k (.tup [z,.b false]):=Iff.rfl
omit [Cur] in
def qqc{z v:AV}{k:AV->Prop}:qik false z (some v) k↔k v:=Iff.rfl
omit [Cur] in
def quu{z v:AV}{k:AV->Prop}:qik true z (some v) k↔k (.tup [v,.b true]):=Iff.rfl
def lkK(h:Hp)(ok:Bool)(zero x i:AV)(k:AV->Prop):Prop:=match x with
  | .nilm=>qik ok zero none k
  | .map r=>qip h r (λes=>qcO qB i es (λv=>qik ok zero v k))
  | _=>False
def qGj{ok:Bool}{z i:AV}{k:AV->Prop}:lkK h ok z .nilm i k↔qik ok z none k:=Iff.rfl
omit [Cur] in
def qGi{ok:Bool}{z i:AV}{r:Nat}{k:AV->Prop}:lkK h ok z (.map r) i k↔qip h r (λes=>qcO qB i es (λv=>qik ok z v k)):=Iff.rfl
omit [Cur] in
def qy8{kd:Option IntKind}{ok:Bool}{z:AV}{x i:O}:opK qB (.lookM kd ok z x i) t h k↔evK t x (λx=>evK t i (λi=>qlJ qB kd i (lkK h ok z x i (λv=>k v h)))):=Iff.rfl
def upK(h:Hp)(x i v:AV)(k:Hp->Prop):Prop:=match x with
  | .map r=>qip h r (λes=>qhT qB i v es (λes'=>jG h r (.map es') k))
  | _=>False
def qIb{i v:AV}{r:Nat}{k:Hp->Prop}:upK h (.map r) i v k↔qip h r (λes=>qhT qB i v es (λes'=>jG h r (.map es') k)):=Iff.rfl
omit [Cur] in
def qCK{kd:Option IntKind}{x i v:O}:opK qB (.updM kd x i v) t h k↔evK t x (λx=>evK t i (λi=>evK t v (λv=>qlJ qB kd i (upK h x i v (λh'=>k .undef h'))))):=Iff.rfl
omit [Cur] in
def qn2:qF []=true:=rfl
omit [Cur] in
theorem qi4{v:AV}{vs:List AV}:qF (v::vs)=(zt v&&qF vs):=by
 show(Bool.rec (motive:=λ_=>Bool) false (qF vs) (zt v):Bool)=_
 cases zt v<;>rfl
omit [Cur] in
def qFk{x:Bool}:zt (.b x)=true:=rfl
omit [Cur] in
def qFl{q:IntKind}{x:Int}:zt (.i q x)=true:=rfl
omit [Cur] in
def qFm{x:List UInt8}:zt (.s x)=true:=rfl
omit [Cur] in
def quH:zt .nilp=true:=rfl
omit [Cur] in
def qw6{b o:Nat}:zt (.ptr b o)=true:=rfl
omit [Cur] in
def quI:zt .nils=true:=rfl
omit [Cur] in
def qBi{b o x c:Nat}{l:Bool}:zt (.sl b o x c l)=true:=rfl
omit [Cur] in
def quE:zt .nilf=true:=rfl
omit [Cur] in
def qBd{f:Nat}{a c:List AV}:zt (.fn f a c)=true:=rfl
omit [Cur] in
def quF:zt .nili=true:=rfl
omit [Cur] in
def qw3{f:Nat}{v:AV}:zt (.ifc f v)=true:=rfl
omit [Cur] in
def quG:zt .nilm=true:=rfl
omit [Cur] in
def qw4{b:Nat}:zt (.map b)=true:=rfl
omit [Cur] in
def qBe{n:Nat}{cs:List AV}:zt (.fz n cs)=true:=rfl
omit [Cur] in
def qBh{n:Nat}{cs:List AV}:zt (.pf cs n)=true:=rfl
omit [Cur] in
def qBc:zt .e0=true:=rfl
omit [Cur] in
def qBg:zt .nz=true:=rfl
omit [Cur] in
def qw5{b n:Nat}:zt (.own b n)=true:=rfl
omit [Cur] in
theorem qpi{a b:List AV}:qF (a++b)=(qF a&&qF b):=by
 induction a with
 | nil=>simp[qn2]
 | cons v a ih=>grind[qi4]
omit [Cur] in
def quJ{α:Type}{f:α->AV}{xs:List α}(h:∀x,zt (f x)=true):qF (xs.map f)=true:=by
 induction xs with
 | nil=>rfl
 | cons v a ih=>simp_all[qi4]
omit [Cur] in
def qmu{α:Type}{f:α->List AV}{xs:List α}(h:∀x,qF (f x)=true):qF (xs.flatMap f)=true:=by
 induction xs with
 | nil=>rfl
 | cons v a ih=>grind[qpi]
omit [Cur] in
theorem xF{a b:List AV}:qu (a++b)=(qu a&&qu b):=by
 induction a with
 | nil=>simp[qu]
 | cons v a ih=>simp[qu,ih,Bool.and_assoc]
omit [Cur] in
def qcJ{α:Type}{f:α->AV}{xs:List α}(h:∀x,clo (f x)=true):qu (xs.map f)=true:=by
 induction xs with
 | nil=>rfl
 | cons v a ih=>simp[qu,ih,h]
omit [Cur] in
def x4{α:Type}{f:α->List AV}{xs:List α}(h:∀x,qu (f x)=true):qu (xs.flatMap f)=true:=by
 induction xs with
 | nil=>rfl
 | cons v a ih=>grind[xF]
omit [Cur] in
def zb{α:Type}{f:α->List AV}{m:Nat}(h:∀x,(f x).length=m)(xs:List α):(xs.flatMap f).length=xs.length*m:=by
 induction xs<;>grind
omit [Cur] in
def qdB{α:Type}{f:α->List AV}{m:Nat}(h:∀x,(f x).length=m):∀(xs:List α) (j:Nat),(xs.flatMap f).drop (j*m)=(xs.drop j).flatMap f
 | [],j=>by simp
 | x::xs,0=>by simp
 | x::xs,j+1=>by
  simp only[zzv,List.drop_succ_cons];rw[Nat.add_mul,Nat.one_mul,Nat.add_comm,<- List.drop_drop,List.drop_left' (h x)];exact qdB h xs j
omit [Cur] in
def qfo{α:Type}{f:α->List AV}{m:Nat}(h:∀x,(f x).length=m):∀(xs:List α) (j:Nat),(xs.flatMap f).take (j*m)=(xs.take j).flatMap f
 | [],j=>by simp
 | x::xs,0=>by simp
 | x::xs,j+1=>by
  simp only[zzv,List.take_succ_cons];rw[Nat.add_mul,Nat.one_mul,Nat.add_comm (j*m),<- h x,List.take_length_add_append,h x,qfo h xs j]
omit [Cur] in
def qcP{α:Type}{f:α->List AV}{m:Nat}(h:∀x,(f x).length=m){xs:List α}{j:Nat}{x:α}(hx:xs[j]?=some x){i:Nat}(hi:i<m):(xs.flatMap f)[j*m+i]?=(f x)[i]?:=by
 rw[<- zzp,qdB h]
 exact Db
omit [Cur] in
def qI{α:Type}{f:α->List AV}{m:Nat}(h:∀x,(f x).length=m){xs:List α}{j:Nat}{x:α}(hx:xs[j]?=some x):((xs.flatMap f).drop (j*m)).take m=f x:=by
 rw[qdB h]
 exact Db
def SL.loop{α:Type}{x:ICode}{Q:X->Tr AV->Hp->Prop}(T:α->List (Nat×AV))(B:α->List Blk)(I:α->Prop)(μ:α->Nat)(a0:α)(src:List Nat)
  (hT:TWs t (rl src h.sz) (B a0).length (T a0)) (hB:BWs h (rl src h.sz) (B a0).length src (B a0)) (hI:(src.filter λb=>decide (b<h.sz)).Nodup) (hfl:h.fl=0) (h0:I a0)
  (step:∀a,I a->∀G:Tr AV->Hp->Prop,(∀b,I b->μ b<μ a->∀t' h',Wk 0 t' h' (mkT (T b)) (mkH 0 (B b))->G t' h')->
   V P 0 x (λe t h=>onX e (G t h) (λid=>Q (.exit id) t h) (Q .ret t h)) (mkT (T a)) (mkH 0 (B a))):SL P 0 x Q t h:=by
 have main:∀m a,μ a=m->I a->SL P 0 x Q (mkT (T a)) (mkH 0 (B a)):=by
  intro m
  induction m using Nat.strongRecOn with
  | ind m ih =>
   intro a ha hi;exact qcz (step a hi (λt h=>SL P 0 x Q t h) λb hb hlt t' h' hw=>SL.weak hw (ih (μ b) (ha ▸ hlt) b rfl hb))
 exact SL.weak (by grind[Wk.mk]) (main _ a0 rfl h0)
omit [Cur] in
def qLv{b:Bool}:(b==true)=b:=by cases b<;>rfl
omit [Cur] in
def qLu{b:Bool}:(b==false) = !b:=by cases b<;>rfl
def vA:=zzA @qwc (zzA @qJg (zzA @qJj (zzA @qEL (zzA @qJi (zzA @qEI (zzA @qEH (zzA @qJf (zzA @qEJ (zzA @qJh (zzA @qEK (zzA @qEE (zzA @qJe (zzA @qv9 (zzA @qwa (zzA @qwb (zzA @quj (zzA @qJd
 (zzA @qFy (zzA @qFv (zzA @qjj (zzA @qyZ (zzA @qCB (zzA @qxu (zzA @qqE (zzA @qDa (zzA @qDb @qzH))))))))))))))))))))))))))
def vR:=zzA @qul (zzA @qrW @qEF)
def vE:=zzA @qlk (zzA @qJO (zzA @qxC (zzA @quX (zzA @qvE (zzA @qvG (zzA @qxX (zzA @quS (zzA @quT (zzA @qKV (zzA @qDG (zzA @qKW (zzA @qKX (zzA @qui (zzA @x5 (zzA @qkQ
 (zzA @qGH (zzA @qHv (zzA @qyn (zzA @qJ9 (zzA @qB9 (zzA @qGd (zzA @qJ7 (zzA @qyo (zzA @qCl (zzA @qGD (zzA @qMa (zzA @qDr (zzA @qBu (zzA @qh2 (zzA @qB1 @jx))))))))))))))))))))))))))))))
def vO:=zzA @qHg (zzA @qCH (zzA @qy1 (zzA @qG4 (zzA @qy2 (zzA @qvx (zzA @qy6 (zzA @qy7 (zzA @qza (zzA @qvA (zzA @qG3 (zzA @qG6 (zzA @qG7 (zzA @qKz (zzA @qy4 (zzA @qHh (zzA @qG2
 (zzA @qy5 (zzA @qG9 (zzA @qvy (zzA @qvz (zzA @qCF (zzA @qCG (zzA @qCJ (zzA @qvC (zzA @qCI (zzA @qG8 (zzA @qHd (zzA @qHf (zzA @qHa (zzA @qG1 (zzA @qCE (zzA @qHc (zzA @qHb (zzA @qy3 (zzA @qHe
 (zzA @qvD (zzA @qCC (zzA @qDh (zzA @qHK (zzA @qHJ (zzA @qzO (zzA @qHI (zzA @qG5 (zzA @qCD (zzA @qwt (zzA @qy8 @qCK))))))))))))))))))))))))))))))))))))))))))))))
def vB:=zzA @qAT (zzA @qAS (zzA @qAP (zzA @qAN (zzA @qAM (zzA @qAO (zzA @qAL (zzA @qAR (zzA @qAI (zzA @qAU (zzA @qAQ (zzA @qE6 (zzA @qAJ (zzA @qAV (zzA @qAK (zzA @qwA (zzA @qwF (zzA @qwz (zzA @qwE (zzA @qwB (zzA @qwD (zzA @qwC (zzA @qIa (zzA @qH9 @qLz)))))))))))))))))))))))
def vF:=zzA @qxK (zzA @qxL (zzA @qJ3 (zzA @qJ2 (zzA @qF5 (zzA @qye (zzA @qyd (zzA @qva (zzA @qlP (zzA @qsQ (zzA @qAY (zzA @qsR (zzA @qlS (zzA @qDn (zzA @qKN (zzA @qKO (zzA @qHR (zzA @qHS (zzA @qHQ (zzA @qEX (zzA @quW (zzA @qxz (zzA @qCc (zzA @qKa (zzA @qKc (zzA @qKb (zzA @qGk (zzA @qKd (zzA @qLQ
 (zzA @qxe (zzA @qFr (zzA @quv (zzA @qr0 (zzA @qGE (zzA @qKj (zzA @qBt (zzA @qJG (zzA @qJH (zzA @qxE (zzA @qu1 (zzA @quO (zzA @qBs (zzA @qzZ (zzA @qHW (zzA @qHY (zzA @qHZ (zzA @qDq (zzA @qHX (zzA @qKQ (zzA @qwq (zzA @qEU (zzA @qAF (zzA @qEW (zzA @qEV
 (zzA @qyQ (zzA @qCo (zzA @qGL (zzA @qyR (zzA @qGK (zzA @qGM (zzA @qGJ (zzA @qCn (zzA @qyO (zzA @qGI (zzA @qyP (zzA @qCm (zzA @qBz (zzA @qxx (zzA @qLF (zzA @qLG @qLE)))))))))))))))))))))))))))))))))))))))))))))))))))))))))))))))))))))
def vM:=zzA @qJ5 (zzA @qJ4 (zzA @qvb (zzA @qB5 (zzA @qB4 (zzA @qov (zzA @qKf (zzA @qqH (zzA @qFM (zzA @qxG (zzA @quh (zzA @qK0 (zzA @qEw (zzA @qwp (zzA @qut (zzA @qqc (zzA @quu (zzA @qGj (zzA @qGi @qIb))))))))))))))))))
def vC:=zzA @qn2 (zzA @qi4 (zzA @qFk (zzA @qFl (zzA @qFm (zzA @quH (zzA @qw6 (zzA @quI (zzA @qBi (zzA @quE (zzA @qBd (zzA @quF (zzA @qw3 (zzA @quG (zzA @qw4 (zzA @qBe (zzA @qBh (zzA @qBc (zzA @qBg @qw5))))))))))))))))))
def vP:=zzA @qvp (zzA @qxB (zzA @qBB (zzA @qBC (zzA @qBD (zzA @qBE (zzA @qxA (zzA @qqF (zzA @qq1 (zzA @qpg (zzA @qEu (zzA @qsZ (zzA @qLv (zzA @qLu @qe9)))))))))))))
def vW:=zzA @qKu (zzA @qyW (zzA @qLT (zzA @qLU (zzA @qLV (zzA @qCv (zzA @qCw (zzA @qCs (zzA @qCt (zzA @qCu (zzA @qKo (zzA @qKr (zzA @qGR (zzA @qyV (zzA @qGW (zzA @qKq (zzA @qKs (zzA @qCx (zzA @qGV (zzA @qKt (zzA @qGU (zzA @qvw (zzA @qGT (zzA @qCy (zzA @qyX (zzA @qGQ (zzA @qGX (zzA @qKp (zzA @qGS
 (zzA @qDE (zzA @qAa (zzA @qA1 (zzA @qwN (zzA @qFa (zzA @qA0 (zzA @qFb (zzA @qhQ @qL6))))))))))))))))))))))))))))))))))))
def vZ:=zzA @qxP (zzA @qLH (zzA @qJR (zzA @qLJ (zzA @qBM (zzA @qBN (zzA @qBJ (zzA @qBK (zzA @qBL (zzA @qJP (zzA @qJS (zzA @qFS (zzA @qJQ (zzA @qJT (zzA @qBO (zzA @qf2 (zzA @qaU (zzA @qFR (zzA @qFU (zzA @qxQ (zzA @qxO (zzA @qFT @qxN)))))))))))))))))))))
end
section
variable [Cur]
variable {P:Program}
mutual
def flat:AV->Bool
 | .ptr _ _=>false
 | .sl _ _ _ _ _=>false
 | .map _=>false
 | .own _ _=>false
 | .fz _ _=>false
 | .pf _ _=>false
 | .sym _=>false
 | .fn _ a c=>qmH a&&qmH c
 | .ifc _ v=>flat v
 | .agg cs=>qmH cs
 | .tup cs=>qmH cs
 | .undef=>true | .b _=>true | .i _ _=>true | .s _=>true | .nilp=>true | .nils=>true | .nilf=>true | .nili=>true | .nilm=>true | .e0=>true | .nz=>true | .yl _=>false | .lp _=>true
def qmH:List AV->Bool
 | []=>true
 | v::vs=>flat v&&qmH vs
end
mutual
def VR.flat{Z Z':Ren}:∀{a:AV}{v:Value},VR σ0 Z a v->Kc.flat a=true->VR σ0 Z' a v
 | _,_,.undef v,_=>.undef v
 | _,_,.b x,_=>.b x
 | _,_,.i k n,_=>.i k n
 | _,_,.s x,_=>.s x
 | _,_,.nilp,_=>.nilp
 | _,_,.ptr b o L h,hc=>Cg
 | _,_,.nils,_=>.nils
 | _,_,.sl b o len cap c loose L h hc,hh=>by simp[Kc.flat]at hh
 | _,_,.slz b o x l L h,hh=>by simp[Kc.flat]at hh
 | _,_,.nilf,_=>.nilf
 | _,_,.fn f first cap first' cap' h1 h2,hc=>by
  simp only[Kc.flat,zzB]at hc;exact .fn _ _ _ _ _ (h1.flat hc.1) (h2.flat hc.2)
 | _,_,.nili,_=>.nili
 | _,_,.ifc t v v' h,hc=>by simp only[Kc.flat]at hc;exact .ifc _ _ _ (h.flat hc)
 | _,_,.agg cs cs' h,hc=>by simp only[Kc.flat]at hc;exact .agg _ _ (h.flat hc)
 | _,_,.tup cs cs' h,hc=>by simp only[Kc.flat]at hc;exact .tup _ _ (h.flat hc)
 | _,_,.nilm,_=>.nilm
 | _,_,.map b L h h0,hc=>Cg
 | _,_,.sym j,hc=>Cg
 | _,_,.fz n off c cs k arr hn h hs,hc=>Cg
 | _,_,.fz0 a,hc=>Cg
 | _,_,.pf off base cs k arr h hs,hc=>Cg
 | _,_,.e0 a,_=>.e0 a
 | _,_,.nz a c,_=>.nz a c
 | _,_,.own0 b a hb,hc=>Cg
 | _,_,.own b n c L h hn hc',hc=>Cg
 | _,_,.yl b L h,hc=>Cg
def VRs.flat{Z Z':Ren}:∀{a:List AV}{v:List Value},VRs σ0 Z a v->qmH a=true->VRs σ0 Z' a v
 | _,_,.nil,_=>.nil
 | _,_,.cons v vs v' vs' h hs,hc=>by
  simp only[qmH,zzB]at hc;exact .cons _ _ _ _ (h.flat hc.1) (hs.flat hc.2)
end
def Rel.bare{Z:Ren}{B:Nat->Prop}{h:Hp}{w:World}(r:Rel σ0 Z B h w):Rel σ0 ⟨λ_=>none,wA Z h w,0⟩ (low w.heap.size) H0 w :=
 ⟨Ad,Ah,Ad,Ad,Ad,Ad,Ad,(λ_ h=>h),
  (λk arr hk=>⟨F5,Ad⟩),Ad⟩
def qa.lend{f:Nat}{vs vs':List AV}{v:AV}{h:Hp}{k:AV->Hp->Prop}(hp:qa P f vs' v)(hf:Frzs h vs vs')(hv:flat v=true)(hk:k v h):SC P f vs h k:=by
 have hp0:=hp H0 (λv' h'=>v'=v/\h'=H0) ⟨rfl,rfl⟩
 refine⟨hp0.1,λZ B w args r ha=>?_⟩
 have hcr:=hf.ok r ha;refine qcb.mono (hp0.2 ⟨λ_=>none,wA Z h w,0⟩ (low w.heap.size) w args r.bare Fo) ?_
 rintro e w' ⟨v0,v',h',Z',rfl,⟨rfl,rfl⟩,g2,g3,g4⟩;refine⟨v0,v',h,Z,rfl,hk,g2.flat hv,?_,⟨λ_ _=>rfl,zzL _,rfl,λ_ _ _=>rfl,Ce,g4.wle,g4.io,λ_ _ h=>h,λ_ _ h=>.inl h,zzL _⟩⟩
 have:=r.frz' (φ:=Z.frz) g4.pres g4.wle (λ_ _ h=>h) Ad (λk a hk=>by
  obtain⟨ty,fz,h1⟩:=(r.frz k a hk).1;refine⟨ty,fz,?_⟩;rw[g4.pres k Ah];exact h1)
 exact Ac
mutual
def shv(m:Nat):AV->AV
 | .ptr b o=>.ptr (b+m) o
 | .sl b o n c l=>.sl (b+m) o n c l
 | .map b=>.map (b+m)
 | .own b n=>.own (b+m) n
 | .yl b=>.yl (b+m)
 | .fn f a c=>.fn f (qgS m a) (qgS m c)
 | .ifc t v=>.ifc t (shv m v)
 | .agg cs=>.agg (qgS m cs)
 | .tup cs=>.tup (qgS m cs)
 | v=>v
def qgS(m:Nat):List AV->List AV
 | []=>[]
 | v::vs=>shv m v::qgS m vs
end
omit [Cur] in
theorem qrJ{m:Nat}:∀{vs:List AV}{j:Nat},(qgS m vs)[j]?=(vs[j]?).map (shv m)
 | [],j=>by simp[qgS]
 | v::vs,0=>by simp[qgS]
 | v::vs,j+1=>by simpa[qgS]using qrJ (vs:=vs) (j:=j)
omit [Cur] in
theorem qeO{m:Nat}:∀{vs:List AV},(qgS m vs).length=vs.length
 | []=>rfl
 | v::vs=>by simp[qgS,qeO (vs:=vs)]
mutual
theorem qt9{m:Nat}:∀{v:AV},clo v=true->shv m v=v
 | .ptr _ _,h=>Fg
 | .sl _ _ _ _ _,h=>Fg
 | .map _,h=>Fg
 | .own _ _,h=>Fg
 | .fn f a c,h=>by
  simp only[clo,zzB]at h;simp only[shv,xt h.1,xt h.2]
 | .ifc t v,h=>by
  simp only[clo]at h;simp only[shv,qt9 h]
 | .agg cs,h=>Hv
 | .tup cs,h=>Hv
 | .undef,_=>rfl
 | .b _,_=>rfl
 | .i _ _,_=>rfl
 | .s _,_=>rfl
 | .nilp,_=>rfl
 | .nils,_=>rfl
 | .nilf,_=>rfl
 | .nili,_=>rfl
 | .nilm,_=>rfl
 | .sym _,h=>Fg
 | .fz _ _,_=>rfl
 | .pf _ _,_=>rfl
 | .e0,_=>rfl
 | .nz,_=>rfl
 | .yl _,h=>Fg
 | .lp _,_=>rfl
theorem xt{m:Nat}:∀{vs:List AV},qu vs=true->qgS m vs=vs
 | [],_=>rfl
 | v::vs,h=>by
  simp only[qu,zzB]at h;simp only[qgS,qt9 h.1,xt h.2]
end
def she(m:Nat)(es:List (AV×AV)):List (AV×AV):=es.map λe=>(shv m e.1,shv m e.2)
omit [Cur] in
def qt6{m:Nat}:she m []=[]:=rfl
omit [Cur] in
def qrI{m:Nat}{a b:AV}{es:List (AV×AV)}:she m ((a,b)::es)=(shv m a,shv m b)::she m es:=rfl
def shb(m:Nat):Blk->Blk
 | .cells e w a cs=>.cells e w a (qgS m cs)
 | .dead=>.dead
 | .map es=>.map (she m es)
def qap(h:Hp):List Blk->Hp
 | []=>h
 | x::xs=>qap (h.push x) xs
omit [Cur] in
def qfI:∀{bs:List Blk}{h:Hp},(qap h bs).sz=h.sz+bs.length
 | [],_=>rfl
 | x::xs,h=>by
  show(qap (h.push x) xs).sz=_;rw[qfI];simp[Hp.push];exact Ac
omit [Cur] in
def qhL:∀{bs:List Blk}{h:Hp},(qap h bs).fl=h.fl
 | [],_=>rfl
 | x::xs,h=>by
  show(qap (h.push x) xs).fl=_;rw[qhL];rfl
omit [Cur] in
theorem qbt:∀{bs:List Blk}{h:Hp}{b:Nat},(qap h bs).tr.get b=if b<h.sz then h.tr.get b else if b<h.sz+bs.length then bs[b-h.sz]? else h.tr.get b
 | [],h,b=>by simp[qap];exact Ac
 | x::xs,h,b=>by
  show(qap (h.push x) xs).tr.get b=_;rw[qbt];simp only[Hp.push,zz4,zze]
  exact Ah
def Ren.join(Z Z2:Ren)(m l:Nat):Ren:=⟨λb=>if b<m then Z b else Z2 (b-m),Z2.frz,m+l⟩
omit [Cur] in
theorem ql2{Z Z2:Ren}{m l b:Nat}(h:b<m):Z.join Z2 m l b=Z b:=by simp only[Ren.join];rw[if_pos h]
omit [Cur] in
def qf8{Z Z2:Ren}{m l b:Nat}:Z.join Z2 m l (b+m)=Z2 b:=by simp only[Ren.join];rw[if_neg Ac,Nat.add_sub_cancel]
mutual
theorem VR.sh{Z Z2:Ren}{m l:Nat}(hl:Z2.n<=l):∀{v:AV}{x:Value},VR σ0 Z2 v x->VR σ0 (Z.join Z2 m l) (shv m v) x
 | _,_,.undef v=>.undef v
 | _,_,.b x=>.b x
 | _,_,.i k n=>.i k n
 | _,_,.s x=>.s x
 | _,_,.nilp=>.nilp
 | _,_,.ptr b o L h=>.ptr _ _ L D8
 | _,_,.nils=>.nils
 | _,_,.sl b o len cap c loose L h hc=>.sl _ _ _ _ _ _ L D8 hc
 | _,_,.slz b o x l' L h=>.slz _ _ _ _ L D8
 | _,_,.nilf=>.nilf
 | _,_,.fn f first cap first' cap' h1 h2=>.fn _ _ _ _ _ (VRs.sh hl h1) (VRs.sh hl h2)
 | _,_,.nili=>.nili
 | _,_,.ifc t v v' h=>.ifc _ _ _ (VR.sh hl h)
 | _,_,.agg cs cs' h=>.agg _ _ (VRs.sh hl h)
 | _,_,.tup cs cs' h=>.tup _ _ (VRs.sh hl h)
 | _,_,.nilm=>.nilm
 | _,_,.map b L h h0=>.map _ L D8 h0
 | _,_,.sym j=>.sym j
 | _,_,.fz n off c cs k arr hn h hs=>.fz n off c cs k arr hn h hs
 | _,_,.fz0 a=>.fz0 a
 | _,_,.pf off base cs k arr h hs=>.pf off base cs k arr h hs
 | _,_,.e0 a=>.e0 a
 | _,_,.nz a c=>.nz a c
 | _,_,.own0 b a hb=>.own0 _ _ (by show b+m<m+l;exact Ac)
 | _,_,.own b n c L h hn hc'=>.own _ _ _ L D8 hn hc'
 | _,_,.yl b L h=>.yl _ L D8
theorem VRs.sh{Z Z2:Ren}{m l:Nat}(hl:Z2.n<=l):∀{v:List AV}{x:List Value},VRs σ0 Z2 v x->VRs σ0 (Z.join Z2 m l) (qgS m v) x
 | _,_,.nil=>.nil
 | _,_,.cons v vs v' vs' h hs=>.cons _ _ _ _ (VR.sh hl h) (VRs.sh hl hs)
end
omit [Cur] in
def qDk{m:Nat}{r:Loop}{ts:List (Nat×AV)}:she m (zu r ts)=zu r (ts.map λp=>(p.1,shv m p.2)):=by simp[she,zu,shv]
theorem qbw.sh{Z Z2:Ren}{m l:Nat}(hl:Z2.n<=l){es:List (AV×AV)}{o:Obj}(h:qbw σ0 Z2 es o):qbw σ0 (Z.join Z2 m l) (she m es) o:=by
 rcases h with⟨h0,vs,clk,h1,h2,h3⟩|⟨a,n,rfl,h2⟩|⟨r,rq,ts,rfl,h2,hk2,h3⟩|⟨r,q,s,l,rfl,h2,h3⟩
 rotate_left 3
 .exact .inr (.inr (.inr ⟨_,q,s,l,rfl,VR.sh hl h2,h3⟩))
 .refine .inl ⟨λe he=>?_,vs,clk,h1,by simp[she,h2],λj e he=>?_⟩
  .cases es with
   | nil=>simp[she]at he
   | cons e0 es =>
    simp[she]at he;subst he;have:=h0 e0 rfl;cases e0 with
    | mk k v=>cases k<;>first|(simp[shv];done)|exact absurd rfl this.1|simp_all
  .simp only[she,zzo]at he
   grind[VR.sh]
 .exact .inr (.inl ⟨a,n,rfl,h2⟩)
 .refine .inr (.inr (.inl ⟨r,rq,_,qDk,h2,hk2,λp hp=>?_⟩))
  obtain⟨q,hq,rfl⟩:=zzl.1 hp;exact⟨(h3 q hq).1,VR.sh hl (h3 q hq).2⟩
def Rel.joinH{Z Z2:Ren}{B:Nat->Prop}{h:Hp}{w w1:World}{bs:List Blk}(r:Rel σ0 Z B h w)(r2:Rel σ0 Z2 (low w.heap.size) (mkH 0 bs) w1)(hp:∀k,k<w.heap.size->w1.heap[k]?=w.heap[k]?)(hw:w.heap.size<=w1.heap.size)
  (f1:∀k a,Z.frz k=some a->Z2.frz k=some a) (f2:∀k a,Z2.frz k=some a->Z.frz k=some a\/w.heap.size<=k) :
  Rel σ0 (Z.join Z2 h.sz bs.length) B (qap h (bs.map (shb h.sz))) w1:=by
 have r1:Rel σ0 ⟨Z.loc,Z2.frz,Z.n⟩ B h w1:=(by grind[Rel.frz',Rel.frz]);have n2:Z2.n<=bs.length:=r2.dn.1
 have le1:Ren.le ⟨Z.loc,Z2.frz,Z.n⟩ (Z.join Z2 h.sz bs.length) :=
  ⟨by grind[ql2,Rel.dom],λ_ _ h=>h,zzg r.dn.1 (Nat.le_add_right _ _)⟩
 -- a block: old,or new
 have split:∀b L,Z.join Z2 h.sz bs.length b=some L->(b<h.sz/\Z b=some L/\(qap h (bs.map (shb h.sz))).tr.get b=h.tr.get b) \/
   ∃c,b=c+h.sz/\Z2 c=some L/\(qap h (bs.map (shb h.sz))).tr.get b=((mkH 0 bs).tr.get c).map (shb h.sz)/\w.heap.size<=L.blk:=by
  intro b L hb
  by_cases hlt:b<h.sz
  .rw[ql2 hlt]at hb
   simp_all[qbt]
  .obtain⟨c,rfl⟩:∃c,b=c+h.sz:=⟨b-h.sz,Ac⟩
   rw[qf8]at hb;have hc:c<bs.length:=r2.dom c L hb;refine .inr ⟨c,rfl,hb,?_,Nat.not_lt.1 (r2.flr c L hb (zzu _))⟩;rw[qbt,if_neg hlt,if_pos Ah,qan,Nat.add_sub_cancel,zzo]
 have oldlt:∀b L x,Z b=some L->h.tr.get b=some x->x≠.dead->L.blk<w.heap.size:=λb L x h1 h2 h3=>r.blk_lt b L h1 x h2 h3
 have shd:∀{x y:Blk},(some x).map (shb h.sz)=some y->y≠.dead->x≠.dead:=by
  intro x y h1 h2 h3;subst h3;simp[shb]at h1;exact Ad
 have shc:∀{o:Option Blk}{e:Nat}{w a:Bool}{cs:List AV},o.map (shb h.sz)=some (.cells e w a cs)->∃cs0,o=some (.cells e w a cs0)/\cs=qgS h.sz cs0:=by
  intro o e w a cs ho;cases o with
  | none=>exact Ah
  | some x =>
   cases x with
   | cells e' w' a' cs'=>simp[shb]at ho;exact Ad
   | dead=>exact Ah
   | map es=>simp[shb]at ho
 have shm:∀{o:Option Blk}{es:List (AV×AV)},o.map (shb h.sz)=some (.map es)->∃es0,o=some (.map es0)/\es=she h.sz es0:=by
  intro o es ho;cases o with
  | none=>exact Ah
  | some x =>
   cases x with
   | cells e' w' a' cs'=>simp[shb]at ho
   | dead=>exact Ah
   | map es'=>simp[shb]at ho;exact Ah
 have shn:∀{o:Option Blk}{y:Blk},o.map (shb h.sz)=some y->y≠.dead->∃x,o=some x/\x≠.dead:=by
  intro o y ho hy;cases o<;>grind
 refine⟨λb L hb=>?_,?_,?_,?_,?_,?_,?_,qfT r.base hw,?_,?_⟩
 .rw[qfI,zzz];rcases split b L hb with⟨h1,_⟩|⟨c,rfl,h1,_⟩
  .omega
  .have:c<bs.length:=r2.dom c L h1;omega
 .intro b L e wf af cs hb hg;rcases split b L hb with⟨h1,h2,h3⟩|⟨c,rfl,h2,h3,_⟩
  .rw[h3]at hg;obtain⟨q1,c,ty,fz,q2,q3,q4,q5,q6⟩:=r1.cells b L e wf af cs h2 hg
   grind[VR.mono]
  .rw[h3]at hg;obtain⟨cs0,g1,rfl⟩:=shc hg;obtain⟨q1,c',ty,fz,q2,q3,q4,q5,q6⟩:=r2.cells c L e wf af cs0 h2 g1
   grind[qeO,qrJ,VR.sh]
 .intro b L es hb hg;rcases split b L hb with⟨h1,h2,h3⟩|⟨c,rfl,h2,h3,_⟩
  .rw[h3]at hg;obtain⟨q1,o,q2,q3⟩:=r1.maps b L es h2 hg;exact D4
  grind[Rel.maps,qbw.sh]
 .intro b L e af cs hb hg b' L' x hb' hx hd he;rcases split b L hb with⟨h1,h2,h3⟩|⟨c,rfl,h2,h3,h4⟩<;>rcases split b' L' hb' with⟨i1,i2,i3⟩|⟨c',rfl,i2,i3,i4⟩
  .rw[h3]at hg;rw[i3]at hx
   grind[Rel.excl]
  .rw[h3]at hg;have:=oldlt b L _ h2 hg (by simp);omega
  .rw[i3]at hx;have:=oldlt b' L' _ i2 hx hd;omega
  .rw[h3]at hg;rw[i3]at hx;obtain⟨cs0,g1,rfl⟩:=shc hg;obtain⟨x0,g2,g3⟩:=shn hx hd;rw[r2.excl c L e af cs0 h2 g1 c' L' x0 i2 g2 g3 he]
 .intro b L es hb hg b' L' x hb' hx hd he;rcases split b L hb with⟨h1,h2,h3⟩|⟨c,rfl,h2,h3,h4⟩
  .rw[h3]at hg
   grind[Rel.exclm]
  .rw[h3]at hg;obtain⟨es0,g1,rfl⟩:=shm hg;rcases split b' L' hb' with⟨i1,i2,i3⟩|⟨c',rfl,i2,i3,i4⟩
   .rw[i3]at hx;have:=oldlt b' L' _ i2 hx hd;omega
   .rw[i3]at hx;obtain⟨x0,g2,g3⟩:=shn hx hd;rw[r2.exclm c L es0 h2 g1 c' L' x0 i2 g2 g3 he]
 .intro b L e wf cs hb hg b' L' e' wf' af' cs' hb' hx he;rcases split b L hb with⟨h1,h2,h3⟩|⟨c,rfl,h2,h3,h4⟩<;>rcases split b' L' hb' with⟨i1,i2,i3⟩|⟨c',rfl,i2,i3,i4⟩
  .rw[h3]at hg;rw[i3]at hx;exact r.app b L e wf cs h2 hg b' L' e' wf' af' cs' i2 hx he
  .rw[h3]at hg;have:=oldlt b L _ h2 hg (by simp);omega
  .rw[i3]at hx;have:=oldlt b' L' _ i2 hx (by simp);omega
  .rw[h3]at hg;rw[i3]at hx;obtain⟨cs0,g1,rfl⟩:=shc hg;obtain⟨cs1,g2,rfl⟩:=shc hx;have q:=r2.app c L e wf cs0 h2 g1 c' L' e' wf' af' cs1 i2 g2 he;rw[qeO,qeO]
   grind
 .intro b L hb hf;rw[qhL]at hf;rcases split b L hb with⟨h1,h2,h3⟩|⟨c,rfl,h2,h3,h4⟩
  .grind[Rel.flr]
  .exact wJ r.base h4
 .intro k arr hk;refine⟨(r2.frz k arr hk).1,λb L x hb hx hd=>?_⟩
  rcases split b L hb with⟨h1,h2,h3⟩|⟨c,rfl,h2,h3,h4⟩
  .rw[h3]at hx;exact(r1.frz k arr hk).2 b L x h2 hx hd
  .rw[h3]at hx;obtain⟨x0,g2,g3⟩:=shn hx hd;exact(r2.frz k arr hk).2 c L x0 h2 g2 g3
 .refine⟨?_,λb L hb=>?_⟩
  .show h.sz+bs.length<=_;rw[qfI,zzz];omega
  .rcases split b L hb with⟨_,h2,_⟩|⟨c,rfl,h2,_,_⟩
   .exact zzh (r.dn.2 b L h2) hw
   .exact r2.dn.2 c L h2
def Own(P:Program)(f:Nat)(vs:List AV)(v:AV)(bs:List Blk):Prop :=
 ∀(h:Hp) (k:AV->Hp->Prop),k (shv h.sz v) (qap h (bs.map (shb h.sz)))->SC P f vs h k
def qv7(v:AV)(bs:List Blk)(v':AV)(h':Hp):Prop:=h'.fl=0->∃src:List Nat,NV (rl src h'.sz) bs.length v' v/\BWs h' (rl src h'.sz) bs.length src bs/\(src.filter λb=>decide (b<h'.sz)).Nodup
def Own.of_SC{f:Nat}{vs:List AV}{v:AV}{bs:List Blk}(hcl:qu vs=true)(hs:SC P f vs H0 (qv7 v bs)):Own P f vs v bs:=by
 intro h k hk;refine⟨hs.1,λZ B w args r ha=>?_⟩
 have hcr:=ha.crs hcl;refine qcb.mono (hs.2 ⟨λ_=>none,Z.frz,0⟩ (low w.heap.size) w args r.empty Fo) ?_
 rintro e w1 ⟨v0,v',h1,Z1,rfl,g1,g2,g3,g4⟩;obtain⟨src,s1,s2,s3⟩:=g1 g4.fl;have hw:Wk 0 (mkT [(0,v0)]) h1 (mkT [(0,v)]) (mkH 0 bs):=Wk.mk [(0,v)] bs src ⟨⟨v0,Ej,s1⟩,trivial⟩ s2 s3 g4.fl
 obtain⟨Z2,t2,r2,k2⟩:=hw Z1 (low w.heap.size) w1 #[v'] (λj x hj=>by
  have:=qeH hj
  exact Ad) g3
 have hv2:VR σ0 Z2 v v':=by
  have:=(t2 0 v Ej).2
  exact Ad
 have f1:∀k a,Z.frz k=some a->Z2.frz k=some a:=by grind[Kep.frz,Kept.frz]
 have f2:∀k a,Z2.frz k=some a->Z.frz k=some a\/w.heap.size<=k:=λk a hk=>(k2.fnew k a hk).elim (λhk=>(g4.fnew k a hk).imp id Nat.not_lt.1) Ac
 refine⟨_,v',_,Z.join Z2 h.sz bs.length,rfl,hk,hv2.sh r2.dn.1,Rel.joinH r r2 g4.pres g4.wle f1 f2,?_⟩;refine⟨by grind[ql2],by rw[qfI];exact Ac,qhL,by grind[qbt],Ce,g4.wle,g4.io,f1,λk a hk=>(f2 k a hk).imp id (wJ r.base),?_⟩
 exact zzg r.dn.1 (Nat.le_add_right _ _)
theorem Own.mk{f:Nat}{i:IFn}{vs:List AV}{v:AV}{bs:List Blk}(hc:qdN P f i=true)(hcl:qu vs=true)(hV:V P 0 i.body (xG i.res (qv7 v bs)) (qaS vs 0 .leaf) H0):Own P f vs v bs :=
 Own.of_SC hcl (SC.mk hc (qj hV))
def qjv(P:Program)(f:Nat)(vs':List AV)(v:AV)(bs:List Blk):Prop :=
 ∀(h:Hp) (vs:List AV) (k:AV->Hp->Prop),Frzs h vs vs'->k (shv h.sz v) (qap h (bs.map (shb h.sz)))->SC P f vs h k
def PC(P:Program)(f:Nat)(vs:List AV)(h:Hp)(k:AV->Hp->Prop):Prop:=∃v h',(∀k':AV->Hp->Prop,k' v h'->SC P f vs h k')/\k v h'
def PY(P:Program)(b:Nat)(vs:List AV)(h:Hp)(k:AV->Hp->Prop):Prop:=∃v h',(∀k':AV->Hp->Prop,k' v h'->CC P 0 (.yl b::vs) h k')/\k v h'
@[congr] theorem qI3 {f:Nat}{vs vs':List AV}{h:Hp}{k:AV->Hp->Prop}{mk:Prop}(_:z8=mk) (h':vs=vs'):PC P f vs h k=PC P f vs' h k:=by rw[h']
@[congr] theorem qI4 {b:Nat}{vs vs':List AV}{h:Hp}{k:AV->Hp->Prop}{mk:Prop}(_:z8=mk) (h':vs=vs'):PY P b vs h k=PY P b vs' h k:=by rw[h']
def PCC(P:Program):zA:=λf vs h k=>∃v h',(∀k':AV->Hp->Prop,k' v h'->CC P f vs h k')/\k v h'
def qLq:LC (PCC P):=λ_ _ _ _ ⟨v,h',h1,h2⟩=>⟨v,h',h2,λ_ h3=>⟨v,h',h1,h3⟩⟩
def qv8:qby P σ0 (PCC P):=⟨λf vs h _ ⟨_,_,h1,h2⟩=>(qfc P).1 f vs h _ (h1 _ h2),λb vs h _ ⟨_,_,h1,h2⟩=>(qfc P).2 b vs h _ (h1 _ h2)⟩
def qFx{b:Nat}{vs:List AV}{h:Hp}{k:AV->Hp->Prop}:cvF (PCC P) (.yl b) vs h k↔PY P b vs h k:=Iff.rfl
def qFw{f:Nat}{a c vs:List AV}{h:Hp}{k:AV->Hp->Prop}:cvF (PCC P) (.fn f a c) vs h k↔PC P f (a++(vs++c)) h k:=Iff.rfl
def qze{dst:Option Nat}{f:Nat}{args:List O}{ops:List ROp}{Q:Tr AV->Hp->Prop}{t:Tr AV}{s fl:Nat}{tr:Tr Blk}:VR' (PCC P) (⟨dst,.callF f args,none⟩::ops) Q t ⟨s,fl,tr⟩↔ww t args (λvs=>PC P f vs ⟨s,s,tr⟩ (λv h'=>wu t dst v (λt'=>VR' (PCC P) ops Q t' (h'.down fl)))):=quk
def qzf{dst:Option Nat}{f:Nat}{args:List O}{ops:List ROp}{Q:Tr AV->Hp->Prop}{t:Tr AV}{h:Hp}:VR' (PCC P) (⟨dst,.callW f args,none⟩::ops) Q t h↔ww t args (λvs=>PC P f vs h (λv h'=>wu t dst v (λt'=>VR' (PCC P) ops Q t' h'))):=qum
def zB{ops:List ROp}{Q:Tr AV->Hp->Prop}{t:Tr AV}{h:Hp}(hr:VR' (PCC P) ops Q t h):VD P ops Q t h:=qJb qLq qv8 hr
def qa.pc{f:Nat}{vs:List AV}{v:AV}{h:Hp}{k:AV->Hp->Prop}(hp:qa P f vs v)(hk:k v h):PC P f vs h k:=⟨v,h,λk' h'=>hp h k' h',hk⟩
def qa.lendp{f:Nat}{vs vs':List AV}{v:AV}{h:Hp}{k:AV->Hp->Prop}(hp:qa P f vs' v)(hf:Frzs h vs vs')(hv:flat v=true)(hk:k v h):PC P f vs h k:=⟨v,h,λ_ h'=>qa.lend hp hf hv h',hk⟩
def qjv.pc{f:Nat}{vs vs':List AV}{v:AV}{bs:List Blk}{h:Hp}{k:AV->Hp->Prop}(hp:qjv P f vs' v bs)(hf:Frzs h vs vs')(hk:k (shv h.sz v) (qap h (bs.map (shb h.sz)))):PC P f vs h k:=⟨_,_,λk' h'=>hp h vs k' hf h',hk⟩
def Own.sc{f:Nat}{vs:List AV}{v:AV}{bs:List Blk}{h:Hp}{k:AV->Hp->Prop}(hp:Own P f vs v bs)(hk:k (shv h.sz v) (qap h (bs.map (shb h.sz)))):SC P f vs h k:=hp h k hk
omit [Cur] in
def ql5{s f:Nat}{tr:Tr Blk}{x:Blk}:Hp.push ⟨s,f,tr⟩ x=⟨s+1,f,tr.set s x⟩:=rfl
omit [Cur] in
def qie{h:Hp}:qap h []=h:=rfl
omit [Cur] in
def qgd{h:Hp}{x:Blk}{xs:List Blk}:qap h (x::xs)=qap (h.push x) xs:=rfl
abbrev qc4:=ICode->(X->Tr AV->Hp->Prop)->Tr AV->Hp->Prop
def qg0(env:Tr IFn)(ih:qc4)(f:Nat)(args:List AV)(h:Hp)(k:AV->Hp->Prop):Prop :=
 env.getK f (λfn=>IFn.rec (motive:=λ_=>Prop) (λres body=>qqg args 0 .leaf (λt0=>ih body (λe t h' =>
  X.rec (motive:=λ_=>Prop) (qaW t h' res (λvs=>k (qao vs) h')) (λ_=>False) (qaW t h' res (λvs=>k (qao vs) h')) e) t0 h)) fn)
abbrev qgM:=Nat->List AV->Option AV
def qfR(P:Program)(ho:qgM):Prop:=∀f vs v,ho f vs=some v->qa P f vs v
def qjL(env:Tr IFn)(ho:qgM)(ih:qc4)(f:Nat)(args:List AV)(h:Hp)(k:AV->Hp->Prop):Prop :=
 Option.rec (motive:=λ_=>Prop) (qg0 env ih f args h k) (λv=>k v h) (ho f args)
def qw1(env:Tr IFn)(ho:qgM)(ih:qc4):zA:=λf args h k=>Nat.rec (motive:=λ_=>Prop) False (λf _=>qjL env ho ih f args h k) f
def fv(env:Tr IFn)(ho:qgM)(n:Nat):qc4 :=
 Nat.rec (motive:=λ_=>qc4) (λ_ _ _ _=>False) (λ_ ih c Q t h=>match c with
  | .skip=>Q .normal t h
  | .reg draw ops=>qel qB draw (qw1 env ho ih) ops (λt h=>Q .normal t h) t h
  | .rangeF _ _ _ _ _=>False
  | .seq x y=>ih x (λe t h=>X.rec (motive:=λ_=>Prop) (ih y Q t h) (λid=>Q (.exit id) t h) (Q .ret t h) e) t h
  | .cond c x y=>evK t c (λv=>unB v (λb=>Bool.rec (motive:=λ_=>Prop) (ih y Q t h) (ih x Q t h) b))
  | .blk id x=>ih x (λe t h=>X.rec (motive:=λ_=>Prop) (Q .normal t h) (λid'=>Bool.rec (motive:=λ_=>Prop) (Q (.exit id') t h) (Q .normal t h) (Nat.beq id' id)) (Q .ret t h) e) t h
  | .loop x=>ih x (λe t h=>X.rec (motive:=λ_=>Prop) (ih (.loop x) Q t h) (λid=>Q (.exit id) t h) (Q .ret t h) e) t h
  | .exit id=>Q (.exit id) t h
  | .ret=>Q .ret t h
  | .no=>False
  | .cut x=>ih x Q t h) n
def LB(ih:qc4):Prop:=∀c Q t h,ih c Q t h->∃e t' h',Q e t' h'/\∀Q',Q' e t' h'->ih c Q' t h
omit [Cur] in
def qms(env:Tr IFn){ih:qc4}(hi:LB ih):LC (qg0 env ih):=by
 intro f vs h k hk;obtain⟨fn,g1,g2⟩:=(Tr.getK_iff _ _ _).1 hk;cases fn with
 | mk res body =>
  obtain⟨t0,g3,g4⟩:=qsN vs 0 .leaf _ g2;obtain⟨e,t',h',h1,h2⟩:=hi _ _ _ _ g3
  have back:∀k',(X.rec (motive:=λ_=>Prop) (qaW t' h' res (λvs=>k' (qao vs) h')) (λ_=>False) (qaW t' h' res (λvs=>k' (qao vs) h')) e:Prop)->qg0 env ih f vs h k':=λk' hk' =>
   (Tr.getK_iff _ _ _).2 ⟨⟨res,body⟩,g1,g4 (λt0=>ih body (λe t h'=>X.rec (motive:=λ_=>Prop) (qaW t h' res (λvs=>k' (qao vs) h')) (λ_=>False) (qaW t h' res (λvs=>k' (qao vs) h')) e) t0 h) (h2 (λe t h'=>X.rec (motive:=λ_=>Prop) (qaW t h' res (λvs=>k' (qao vs) h')) (λ_=>False) (qaW t h' res (λvs=>k' (qao vs) h')) e) hk')⟩
  cases e with
  | exit id=>exact h1.elim
  | normal =>
   exact D6
  | ret =>
   exact D6
omit [Cur] in
def qA9(env:Tr IFn)(ho:qgM){ih:qc4}(hi:LB ih):LC (qjL env ho ih):=by
 intro f vs h k hk;unfold qjL at hk;cases hv:ho f vs with
 | none =>
  rw[hv]at hk;obtain⟨v,h',h1,h2⟩:=qms env hi f vs h k hk;exact⟨v,h',h1,λk' hk'=>by unfold qjL;rw[hv];exact h2 k' hk'⟩
 | some v =>
  rw[hv]at hk;exact⟨v,h,hk,λk' hk'=>by unfold qjL;rw[hv];exact hk'⟩
omit [Cur] in
def qqs(env:Tr IFn)(ho:qgM){ih:qc4}(hi:LB ih):LC (qw1 env ho ih):=by
 intro f vs h k hk;cases f with
 | zero=>exact Gy
 | succ f=>exact qA9 env ho hi f vs h k hk
omit [Cur] in
def qJU(env:Tr IFn)(ho:qgM):∀n,LB (fv env ho n)
 | 0=>λ_ _ _ _ h=>h.elim
 | n+1=>λc Q t h hk=>by
  have ih:=qJU env ho n;cases c with
  | no=>exact Gy
  | rangeF=>exact Gy
  | cut x=>exact ih _ _ _ _ hk
  | skip=>exact Ed
  | exit id=>exact Ed
  | ret=>exact Ed
  | reg draw ops =>
   obtain⟨t',h',h1,h2⟩:=qgh qB draw (qqs env ho ih) ops t h _ hk;exact H2
  | seq x y =>
   obtain⟨e,t1,h1,g1,g2⟩:=ih _ _ _ _ hk;cases e with
   | normal =>
    obtain⟨e2,t2,h2,g3,g4⟩:=ih _ _ _ _ g1;exact⟨e2,t2,h2,g3,λQ' hQ=>g2 (λe t h=>X.rec (motive:=λ_=>Prop) (fv env ho n y Q' t h) (λid=>Q' (.exit id) t h) (Q' .ret t h) e) (g4 _ hQ)⟩
   | exit id=>exact C9
   | ret=>exact C9
  | cond c x y =>
   obtain⟨v,g1,g2⟩:=qw t c _ hk;obtain⟨b,g3,g4⟩:=qhS v _ g1;cases b with
   | true =>
    exact Be
   | false =>
    exact Be
  | blk id x =>
   exact Ag
  | loop x =>
   obtain⟨e,t1,h1,g1,g2⟩:=ih _ _ _ _ hk;cases e with
   | normal =>
    obtain⟨e2,t2,h2,g3,g4⟩:=ih _ _ _ _ g1;exact⟨e2,t2,h2,g3,λQ' hQ=>g2 (λe t h=>X.rec (motive:=λ_=>Prop) (fv env ho n (.loop x) Q' t h) (λid=>Q' (.exit id) t h) (Q' .ret t h) e) (g4 _ hQ)⟩
   | exit id=>exact Cz
   | ret=>exact Cz
theorem S.mono{n:Nat}{c:ICode}{Q Q':X->Tr AV->Hp->Prop}{t:Tr AV}{h:Hp}(hs:S P n c Q t h)(hq:∀e t h,Q e t h->Q' e t h):S P n c Q' t h:=by
 intro nt code hc hn ro hro Z B w a ht hsz r;refine wpIn_mono (hs nt code hc hn ro hro Z B w a ht hsz r) ?_;rintro e a1 w1 ⟨x1,t1,h1,Z1,rs,hx,hq1,rest⟩;exact⟨x1,t1,h1,Z1,rs,hx,hq _ _ _ hq1,rest⟩
def S.reg{n:Nat}{d:Bool}{rs:List ROp}{C:zA}(hl:LC C)(hC:qby P σ0 C){Q:X->Tr AV->Hp->Prop}{t:Tr AV}{h:Hp}(hv:qel qB d C rs (λt h=>Q .normal t h) t h):S P n (.reg d rs) Q t h:=by
 intro nt code hc hn ro hro Z B w a ht hsz r;cases code<;>first|(simp[qP]at hc;done)|skip
 rename_i id ops d';simp only[qP,zzB]at hc;obtain⟨⟨h1,h2⟩,h3⟩:=hc;obtain rfl:=eq_of_beq h1;cases d' with
 | false =>
  refine wpIn_region ?_
  have:=qhP (ops:=ops) (nt:=nt) (ro:=ro) (K:=qcF σ0 Q nt n Z B h w a.defers) (Z0:=Z) (h0:=h) (w0:=w) (ds:=a.defers) (qcC P) hC (λa' w' t' h' Z' g1 g2 g3 g4 g5 g6=>qcF.of .normal g1 g2 g3 g4 g5 (g6.kep hn))
   ops.toList rs 0 h2 rfl t h Z w a hv ht hsz rfl r (Kept.refl _ _ _ _)
  rw[List.range_eq_range'];exact D0
 | true =>
  simp only[Bool.not_true,Bool.false_or,zzB]at h3;exact qs0 (qcC P) hl hC h2 h3.1 h3.2 hv ht hsz r (λa' w' t' h' Z' g1 g2 g3 g4 g5 g6=>qcF.of .normal g1 g2 g3 g4 g5 (g6.kep hn))
def S.seq{n:Nat}{x y:ICode}{Q:X->Tr AV->Hp->Prop}{t:Tr AV}{h:Hp}(hv:S P n x (λe t h=>onX e (S P n y Q t h) (λid=>Q (.exit id) t h) (Q .ret t h)) t h):S P n (.seq x y) Q t h:=by
 intro nt code hc hn ro hro Z B w a ht hsz r;cases code<;>first|(simp[qP]at hc;done)|skip
 rename_i cx cy;simp only[qP,zzB]at hc;refine wpIn_seq (wpIn_mono (hv nt cx hc.1 hn ro (nr1 hro) Z B w a ht hsz r) ?_);rintro e a1 w1 ⟨x1,t1,h1,Z1,rs,hx,hq,ht1,hs1,hd1,hm,r1,k1⟩;cases hx with
 | normal=>exact wpIn_mono (hq nt cy hc.2 k1.szle ro (nr2 hro) Z1 _ w1 a1 ht1 hs1 r1) (λe a2 w2 hp=>qcF.trans k1 hm hd1 hm.lt hp)
 | exit id=>exact Cn
 | ret=>exact Bo
def S.cond{n:Nat}{c:O}{x y:ICode}{Q:X->Tr AV->Hp->Prop}{t:Tr AV}{h:Hp}(hv:evK t c (λv=>unB v (λb=>if b=true then S P n x Q t h else S P n y Q t h))):S P n (.cond c x y) Q t h:=by
 intro nt code hc hn ro hro Z B w a ht hsz r;cases code<;>first|(simp[qP]at hc;done)|skip
 rename_i cc cx cy;simp only[qP,zzB]at hc;obtain⟨⟨h1,h2⟩,h3⟩:=hc;obtain⟨v,h4,h5⟩:=qR ht h1 hv;obtain⟨b,h6,h7⟩:=qny h5 h4;cases b with
 | true=>exact wpIn_cond_true h6 (h7 nt cx h2 hn ro (nr1 hro) Z B w a ht hsz r)
 | false=>exact wpIn_cond_false h6 (h7 nt cy h3 hn ro (nr2 hro) Z B w a ht hsz r)
theorem S.blk{n id:Nat}{x:ICode}{Q:X->Tr AV->Hp->Prop}{t:Tr AV}{h:Hp}(hv:S P n x (λe t h=>onX e (Q .normal t h) (λi=>if i=id then Q .normal t h else Q (.exit i) t h) (Q .ret t h)) t h):S P n (.blk id x) Q t h:=by
 intro nt code hc hn ro hro Z B w a ht hsz r;cases code<;>first|(simp[qP]at hc;done)|skip
 rename_i id' cx;simp only[qP,zzB]at hc;obtain rfl:=eq_of_beq hc.1;refine wpIn_block (wpIn_mono (hv nt cx hc.2 hn ro hro Z B w a ht hsz r) ?_);rintro e a1 w1 ⟨x1,t1,h1,Z1,rs,hx,hq,ht1,hs1,hd1,hm,r1,k1⟩;cases hx with
 | normal=>exact H9
 | ret=>exact Bo
 | exit id2 =>
  exact A8
def S.loop{n:Nat}{x:ICode}{Q:X->Tr AV->Hp->Prop}{t:Tr AV}{h:Hp}(hv:SL P n x Q t h):S P n (.loop x) Q t h:=by
 intro nt code hc hn ro hro Z B w a ht hsz r;cases code<;>first|(simp[qP]at hc;done)|skip
 exact Fj
def SL.of_S{n:Nat}{x:ICode}{Q:X->Tr AV->Hp->Prop}{t:Tr AV}{h:Hp}(hv:S P n x (λe t h=>onX e (SL P n x Q t h) (λid=>Q (.exit id) t h) (Q .ret t h)) t h):SL P n x Q t h:=by
 intro nt cx hc hn ro hro Z B w a ht hsz r;refine qlz (wpIn_mono (hv nt cx hc hn ro hro Z B w a ht hsz r) ?_);rintro e a1 w1 ⟨x1,t1,h1,Z1,rs,hx,hq,ht1,hs1,hd1,hm,r1,k1⟩;cases hx with
 | normal=>exact qeQ.mono (hq nt cx hc k1.szle ro hro Z1 _ w1 a1 ht1 hs1 r1) (λe a2 w2 hp=>qcF.trans k1 hm hd1 hm.lt hp)
 | exit id=>exact Cn
 | ret=>exact Bo
def qp3(P:Program)(env:Tr IFn):Prop:=∀f i,env.get f=some i->qdN P f i=true
omit [Cur] in
def qkK:∀{l:List AV}{n:Nat}{t:Tr AV}{k:Tr AV->Prop},qqg l n t k↔k (qaS l n t)
 | [],_,_,_=>Iff.rfl
 | v::l,n,t,k=>by
  show t.setK n v (λt'=>qq (Nat.succ n) (λn'=>qqg l n' t' k))↔_
  rw[Tr.setK_iff,qy,qkK];exact Bm
def qpe{env:Tr IFn}(he:qp3 P env){ih:qc4}(hi:∀c Q t h,ih c Q t h->∀n,S P n c Q t h){f:Nat}{vs:List AV}{h:Hp}{k:AV->Hp->Prop}(hk:qg0 env ih f vs h k):SC P f vs h k:=by
 obtain⟨fn,g1,g2⟩:=(Tr.getK_iff _ _ _).1 hk;cases fn with
 | mk res body =>
  have g3:=qkK.1 g2;exact SC.mk (he f _ g1) (hi _ _ _ _ g3 h.sz)
def qlf{env:Tr IFn}{ho:qgM}(he:qp3 P env)(hh:qfR P ho){ih:qc4}(hi:∀c Q t h,ih c Q t h->∀n,S P n c Q t h){f:Nat}{vs:List AV}{h:Hp}{k:AV->Hp->Prop}(hk:qjL env ho ih f vs h k):SC P f vs h k:=by
 unfold qjL at hk;cases hv:ho f vs with
 | none=>rw[hv]at hk;exact qpe he hi hk
 | some v=>rw[hv]at hk;exact hh f vs v hv h k hk
def qqQ{env:Tr IFn}{ho:qgM}(he:qp3 P env)(hh:qfR P ho):∀m,(∀c Q t h,fv env ho m c Q t h->∀n,S P n c Q t h)/\(∀x Q t h,fv env ho m (.loop x) Q t h->∀n,SL P n x Q t h)
 | 0=>⟨λ_ _ _ _ h=>h.elim,λ_ _ _ _ h=>h.elim⟩
 | m+1=>by
  obtain⟨ih,ihl⟩:=qqQ he hh m
  have loop:∀x Q t h,fv env ho (m+1) (.loop x) Q t h->∀n,SL P n x Q t h:=by
   intro x Q t h hv n;have hv':fv env ho m x (λe t h=>onX e (fv env ho m (.loop x) Q t h) (λid=>Q (.exit id) t h) (Q .ret t h)) t h:=hv
   refine SL.of_S ((ih _ _ _ _ hv' n).mono ?_);intro e t h hq;cases e with
   | normal=>exact ihl x Q t h hq n
   | exit id=>exact hq
   | ret=>exact hq
  refine⟨λc Q t h hv n=>?_,loop⟩
  cases c with
  | no=>exact hv.elim
  | rangeF=>exact hv.elim
  | cut x=>exact qj (c:=.cut x) (ih _ _ _ _ hv n)
  | skip=>exact qj (c:=.skip) hv
  | exit id=>exact qj (c:=.exit id) hv
  | ret=>exact qj (c:=.ret) hv
  | reg d ops=>exact S.reg (qqs env ho (qJU env ho m)) ⟨λf vs h k hk=>qlf he hh ih hk,λ_ _ _ _ hk=>hk.elim⟩ hv
  | seq x y =>
   have hv':fv env ho m x (λe t h=>onX e (fv env ho m y Q t h) (λid=>Q (.exit id) t h) (Q .ret t h)) t h:=hv
   refine S.seq ((ih _ _ _ _ hv' n).mono ?_);intro e t h hq;cases e with
   | normal=>exact ih y Q t h hq n
   | exit id=>exact hq
   | ret=>exact hq
  | cond c x y =>
   obtain⟨v,g1,g2⟩:=qw t c _ hv;refine S.cond (g2 _ ?_);obtain⟨b,g3,g4⟩:=qhS v _ g1;refine g4 _ ?_;cases b with
   | true=>exact ih _ _ _ _ g3 n
   | false=>exact ih _ _ _ _ g3 n
  | blk id x =>
   have hv':fv env ho m x (λe t h=>X.rec (motive:=λ_=>Prop) (Q .normal t h) (λid'=>Bool.rec (motive:=λ_=>Prop) (Q (.exit id') t h) (Q .normal t h) (Nat.beq id' id)) (Q .ret t h) e) t h:=hv
   refine S.blk ((ih _ _ _ _ hv' n).mono ?_);intro e t h hq;cases e with
   | normal=>exact hq
   | ret=>exact hq
   | exit i =>
    exact Az
  | loop x=>exact S.loop (loop x Q t h hv n)
def SC.run{env:Tr IFn}{ho:qgM}(he:qp3 P env)(hh:qfR P ho)(m:Nat){f:Nat}{vs:List AV}{h:Hp}{k:AV->Hp->Prop}(hk:qjL env ho (fv env ho m) f vs h k):SC P f vs h k:=qlf he hh (qqQ he hh m).1 hk
def qa.run{env:Tr IFn}{ho:qgM}(he:qp3 P env)(hh:qfR P ho)(m:Nat){f:Nat}{vs:List AV}{v:AV}(hcl:qu vs=true)(hk:qjL env ho (fv env ho m) f vs H0 (λv' h'=>Frz h' v' v)):qa P f vs v:=qa.of_SC hcl (SC.run he hh m hk)
end
section
variable [Cur]
variable {P:Program}{t:Tr AV}{h:Hp}{k:AV->Hp->Prop}
def qnr(l:List UInt8)(i:Nat):Nat×Nat:=Utf8.decode ⟨l.toArray⟩ i
omit [Cur] in
def qvB{x:O}:opK qB (.rangeS x) t h k↔evK t x (λx=>match x with | .s a=>x6 h (.map (xI a 0)) (λb h'=>k (.ptr b 0) h')|_=>False):=Iff.rfl
def qJ1(x:Blk)(k:List UInt8->Nat->Prop):Prop:=∃a n,x = .map (xI a n)/\k a n
theorem qvc{a a':List UInt8}{n n':Nat}(e:xI a n=xI a' n'):a=a'/\n=n':=by
 simp only[xI,List.cons.injEq,Prod.mk.injEq,AV.s.injEq,AV.i.injEq,true_and,and_true]at e
 exact Ah
def qB6{a:List UInt8}{n:Nat}{k:List UInt8->Nat->Prop}:qJ1 (.map (xI a n)) k↔k a n:=by
 constructor
 .rintro⟨a',n',h1,h2⟩
  grind[qvc]
 .intro h1;exact⟨a,n,rfl,h1⟩
def qy9{x:O}:opK qB (.nextS x) t h k↔evK t x (λx=>unP x (λb o=>ifK (o=0) (evB (h.tr.get b) (λy=>qJ1 y (λa n=>if n<a.length then evN (n+(qnr a n).2) (λm=>jG h b (.map (xI a m)) (λh'=>evA (.i .i32 ((qnr a n).1:Int)) (λc=>k (.tup [.b true,.i .i64 (n:Int),c]) h')))else k (.tup [.b false]) h))))):=by
 show evK t x (λx=>unP x (λb o=>qn (Nat.beq o 0) (qop h b _)))↔_
 refine iff_of_eq (congrArg _ (funext λv=>congrArg _ (funext λb=>funext λo=>?_)))
 rw[show(qn (Nat.beq o 0)=λp=>ifK (o=0) p)from by funext p;exact propext ((qc _ _).trans (by rw[qfU];exact Bm))]
 refine congrArg _ (propext (qh6.trans ?_))
 have body:∀a n,(match a[n]? with
  | some c=>(Bool.rec (motive:=λ_=>Prop)
    (jG h b (.map (xI a (Nat.add n (Utf8.decode ⟨a.toArray⟩ n).2))) (λh'=>k (.tup [.b true,.i .i64 (Int.ofNat n),.i .i32 (Int.ofNat (Utf8.decode ⟨a.toArray⟩ n).1)]) h'))
    (qq (Nat.succ n) (λm=>jG h b (.map (xI a m)) (λh'=>k (.tup [.b true,.i .i64 (Int.ofNat n),.i .i32 (Int.ofNat c.toNat)]) h')))
    (Nat.ble (Nat.succ c.toNat) 128):Prop)
  | none=>k (.tup [.b false]) h)↔if n<a.length then evN (n+(qnr a n).2) (λm=>jG h b (.map (xI a m)) (λh'=>evA (.i .i32 ((qnr a n).1:Int)) (λc=>k (.tup [.b true,.i .i64 (n:Int),c]) h')))else k (.tup [.b false]) h:=by
  intro a n
  by_cases hi:n<a.length
  .rw[if_pos hi,zzE hi];dsimp only;cases hc:Nat.ble (Nat.succ a[n].toNat) 128 with
   | false=>exact Bm
   | true =>
    have hlt:=Nat.le_of_ble_eq_true hc;have hd:qnr a n=(a[n].toNat,1):=qjP (zzE hi) Ac;show qq _ _↔_;rw[qy,hd];exact Bm
  .rw[if_neg hi,List.getElem?_eq_none Ac]
 constructor
 .rintro⟨a,n,h1,h2⟩;exact⟨_,h1,a,n,rfl,(body a n).1 h2⟩
 .rintro⟨_,h1,a,n,rfl,h2⟩;exact⟨a,n,h1,(body a n).2 h2⟩
def qf9(es:List (AV×AV)):Prop:=∀e ∈ es,clo e.1=true/\clo e.2=true
omit [Cur] in
def qE9{r:Nat->Nat}{m b:Nat}{es:List (AV×AV)}(hb:b<h.sz):BW h r m b (.map es)↔evB (h.tr.get b) (λx=>qrh x (λes'=>EsW r m es' es)):=by
 constructor
 .rintro (h1|h1|⟨e',w0,a0,cs,w',a',cs'',h1,h2,h3,h4,h5⟩|⟨es',es2,h1,h2,h3⟩)
  .exact Ac
  .cases h1
  .cases h2
  .cases h2;exact⟨_,h1,h3⟩
 .rintro⟨x,h1,h2⟩;cases x with
  | map es'=>exact .inr (.inr (.inr ⟨_,_,h1,rfl,h2⟩))
  | dead=>exact Fk
  | cells e0 w0 a0 cs=>exact Fk
omit [Cur] in
def qpq{r:Nat->Nat}{m:Nat}{es es':List (AV×AV)}(hn:∀lr ts,es'≠zu lr ts):EsW r m es es'↔es=es'/\qf9 es' :=
 ⟨λh=>by
  rcases h with⟨rfl,h⟩|⟨lr,ts,ts',_,h,_⟩
  .exact⟨rfl,h⟩
  exact Ah,fun⟨h1,h2⟩=>by subst h1;exact .inl ⟨rfl,h2⟩⟩
omit [Cur] in
def qBA{r:Nat->Nat}{m:Nat}{es:List (AV×AV)}:EsW r m es []↔es=[]:=(qpq (by simp[zu])).trans ⟨And.left,λh=>⟨h,by intro e he;cases he⟩⟩
omit [Cur] in
def qJN{r:Nat->Nat}{m:Nat}{es es':List (AV×AV)}{a:List UInt8}{v:AV}:EsW r m es ((.s a,v)::es')↔es=(.s a,v)::es'/\qf9 ((.s a,v)::es'):=qpq (by simp[zu])
omit [Cur] in
def qJM{r:Nat->Nat}{m:Nat}{es es':List (AV×AV)}{q:IntKind}{a:Int}{v:AV}:EsW r m es ((.i q a,v)::es')↔es=(.i q a,v)::es'/\qf9 ((.i q a,v)::es'):=qpq (by simp[zu])
omit [Cur] in
def qFG{r:Nat->Nat}{m:Nat}{es:List (AV×AV)}{a:List UInt8}{n:Nat}:EsW r m es (xI a n)↔es=xI a n/\qf9 (xI a n):=qpq (by simp[xI,zu])
omit [Cur] in
def qbG{r:Nat->Nat}{m:Nat}{lr lr':Loop}{ts ts':List (Nat×AV)}:EsW r m (zu lr ts) (zu lr' ts')↔lr=lr'/\TsW r m ts ts' :=
 ⟨λh=>by
  rcases h with⟨h1,h⟩|⟨l,t1,t2,h1,h2,h3⟩
  .exact absurd (h (.lp lr,.undef) (by simp[zu])).1 (by simp[clo])
  grind[qrz],fun⟨h1,h2⟩=>by subst h1;exact .inr Ah⟩
omit [Cur] in
def qb1{r:Nat->Nat}{m:Nat}{ts:List (Nat×AV)}:TsW r m ts []↔True:=iff_true_intro (by intro p hp;cases hp)
omit [Cur] in
def qaB{r:Nat->Nat}{m:Nat}{ts ts':List (Nat×AV)}{p:Nat×AV}:TsW r m ts (p::ts')↔evO (qlw ts p.1) (λv=>NV r m v p.2)/\TsW r m ts ts':=by
 simp only[TsW,zzc,forall_eq_or_imp];exact Bm
omit [Cur] in
def jj{p:Nat×AV}{l:List (Nat×AV)}{j:Nat}:qlw (p::l) j=if p.1=j then some p.2 else qlw l j:=rfl
omit [Cur] in
def qvo{a:List UInt8}{n:Nat}:qf9 (xI a n)↔True:=by
 refine iff_true_intro ?_;intro e he;simp only[xI,zzc,List.mem_nil_iff,or_false]at he;rcases he with rfl|rfl<;>exact⟨rfl,rfl⟩
omit [Cur] in
def qsj:qf9 []↔True:=iff_true_intro (by intro e he;cases he)
omit [Cur] in
def qri{e:AV×AV}{es:List (AV×AV)}:qf9 (e::es)↔(clo e.1=true/\clo e.2=true)/\qf9 es:=by simp[qf9]
def SC.nil0{f:Nat}{k:AV->Hp->Prop}(h1:SC P f [.nils] h k)(h2:SC P f [.nz] h k):SC P f [.fz 0 []] h k:=by
 refine⟨h1.1,λZ B w args r ha=>?_⟩
 generalize hl:args.toList=xs at ha;cases ha with
 | cons _ _ x xs hx hxs =>
  cases hx with
  | fz _ off c _ k' arr hn hk hs=>exact G1
  | fz0 a =>
   cases a with
   | none=>exact h1.2 Z B w args r (by rw[hl];exact .cons _ _ _ _ .nils hxs)
   | some a=>exact G1
omit [Cur] in
def qd{r:Nat->Nat}{m:Nat}{vs:List AV}(hc:qu vs=true):NVs r m vs vs↔True:=by grind[NVs.refl]
def zc{vs:List AV}(hc:qu vs=true):Frzs h vs vs↔True:=iff_true_intro (Frzs.self hc)
theorem Wk.mkn{n:Nat}{t:Tr AV}(ts:List (Nat×AV))(bl:List Blk)(src:List Nat)(hT:TWs t (rl src h.sz) bl.length ts)(hB:BWs h (rl src h.sz) bl.length src bl)
  (hI:((src.filter λb=>decide (b<h.sz)).Nodup)) (hfl:h.fl=0) (hn:n<=bl.length) (hlow:∀b,b<n->rl src h.sz b=b):Wk n t h (mkT ts) (mkH 0 bl):=by
 obtain⟨hlen,hget⟩:=hB.get;refine Wk.of (r:=rl src h.sz) ⟨hfl.symm,λb' x' hb hg=>?_,λb1 b2 h1 h2 _ _ he hl=>?_,λb' _ _ _=>by rw[hfl];exact Ac,hlow,hn,λb _ hb=>by rw[hfl]at hb;exact Ac,λj v' hj=>?_⟩
 .exact Bv
 .have h1:b1<src.length:=by rw[hlen];exact h1
  have h2:b2<src.length:=by rw[hlen];exact h2
  simp only[rl,zzs,zzE h1,zzE h2,Option.getD_some]at he hl
  grind[Wk.mk.nodup_filter_inj]
 .exact hT.get _ (qeH hj)
def SL.loopn{n:Nat}{α:Type}{x:ICode}{Q:X->Tr AV->Hp->Prop}(T:α->List (Nat×AV))(B:α->List Blk)(I:α->Prop)(μ:α->Nat)(a0:α)(src:List Nat)
  (hT:TWs t (rl src h.sz) (B a0).length (T a0)) (hB:BWs h (rl src h.sz) (B a0).length src (B a0)) (hI:(src.filter λb=>decide (b<h.sz)).Nodup) (hfl:h.fl=0) (hn:n<=(B a0).length) (hlow:∀b,b<n->rl src h.sz b=b) (h0:I a0)
  (step:∀a,I a->∀G:Tr AV->Hp->Prop,(∀b,I b->μ b<μ a->∀t' h',Wk n t' h' (mkT (T b)) (mkH 0 (B b))->G t' h')->
   V P n x (λe t h=>onX e (G t h) (λid=>Q (.exit id) t h) (Q .ret t h)) (mkT (T a)) (mkH 0 (B a))):SL P n x Q t h:=by
 have main:∀m a,μ a=m->I a->SL P n x Q (mkT (T a)) (mkH 0 (B a)):=by
  intro m
  exact B5
 exact SL.weak (by grind[Wk.mkn]) (main _ a0 rfl h0)
end
section
variable [Cur]
variable {P:Program}
mutual
def rnv(g:Nat->Nat):AV->AV
 | .ptr b o=>.ptr (g b) o
 | .sl b o n c l=>.sl (g b) o n c l
 | .map b=>.map (g b)
 | .own b n=>.own (g b) n
 | .yl b=>.yl (g b)
 | .fn f a c=>.fn f (qaX g a) (qaX g c)
 | .ifc t v=>.ifc t (rnv g v)
 | .agg cs=>.agg (qaX g cs)
 | .tup cs=>.tup (qaX g cs)
 | v=>v
def qaX(g:Nat->Nat):List AV->List AV
 | []=>[]
 | v::vs=>rnv g v::qaX g vs
end
mutual
def bnd(m:Nat):AV->Bool
 | .ptr b _=>decide (b<m)
 | .sl b _ _ _ _=>decide (b<m)
 | .map b=>decide (b<m)
 | .own b _=>decide (b<m)
 | .yl b=>decide (b<m)
 | .fn _ a c=>jq m a&&jq m c
 | .ifc _ v=>bnd m v
 | .agg cs=>jq m cs
 | .tup cs=>jq m cs
 | _=>true
def jq(m:Nat):List AV->Bool
 | []=>true
 | v::vs=>bnd m v&&jq m vs
end
omit [Cur] in
def qnm{g:Nat->Nat}:∀{vs:List AV}{j:Nat},(qaX g vs)[j]?=(vs[j]?).map (rnv g)
 | [],j=>by simp[qaX]
 | v::vs,0=>by simp[qaX]
 | v::vs,j+1=>by simpa[qaX]using qnm (vs:=vs) (j:=j)
omit [Cur] in
def qaA{g:Nat->Nat}:∀{vs:List AV},(qaX g vs).length=vs.length
 | []=>rfl
 | v::vs=>by simp[qaX,qaA (vs:=vs)]
omit [Cur] in
def qqm{m:Nat}:∀{vs:List AV}{j:Nat}{v:AV},jq m vs=true->vs[j]?=some v->bnd m v=true
 | [],_,_,_,h=>Ah
 | x::xs,0,_,hb,h=>by
  simp only[jq,zzB]at hb
  exact Ad
 | x::xs,j+1,_,hb,h=>by
  simp only[jq,zzB]at hb;exact qqm (vs:=xs) (j:=j) hb.2 Ad
mutual
def VR.rn{Z2 Z3:Ren}{g:Nat->Nat}(h1:∀b L,Z2 b=some L->Z3 (g b)=some L)(h2:∀k a,Z2.frz k=some a->Z3.frz k=some a)(h3:∀b,b<Z2.n->g b<Z3.n):∀{v:AV}{x:Value},VR σ0 Z2 v x->VR σ0 Z3 (rnv g v) x
 | _,_,.undef v=>.undef v
 | _,_,.b x=>.b x
 | _,_,.i k n=>.i k n
 | _,_,.s x=>.s x
 | _,_,.nilp=>.nilp
 | _,_,.ptr b o L h=>.ptr _ _ L (h1 _ _ h)
 | _,_,.nils=>.nils
 | _,_,.sl b o len cap c loose L h hc=>.sl _ _ _ _ _ _ L (h1 _ _ h) hc
 | _,_,.slz b o x l' L h=>.slz _ _ _ _ L (h1 _ _ h)
 | _,_,.nilf=>.nilf
 | _,_,.fn f first cap first' cap' q1 q2=>.fn _ _ _ _ _ (VRs.rn h1 h2 h3 q1) (VRs.rn h1 h2 h3 q2)
 | _,_,.nili=>.nili
 | _,_,.ifc t v v' h=>.ifc _ _ _ (VR.rn h1 h2 h3 h)
 | _,_,.agg cs cs' h=>.agg _ _ (VRs.rn h1 h2 h3 h)
 | _,_,.tup cs cs' h=>.tup _ _ (VRs.rn h1 h2 h3 h)
 | _,_,.nilm=>.nilm
 | _,_,.map b L h h0=>.map _ L (h1 _ _ h) h0
 | _,_,.sym j=>.sym j
 | _,_,.fz n off c cs k arr hn h hs=>.fz n off c cs k arr hn (h2 _ _ h) (hs.mono h2)
 | _,_,.fz0 a=>.fz0 a
 | _,_,.pf off base cs k arr h hs=>.pf off base cs k arr (h2 _ _ h) (hs.mono h2)
 | _,_,.e0 a=>.e0 a
 | _,_,.nz a c=>.nz a c
 | _,_,.own0 b a hb=>.own0 _ _ (h3 _ hb)
 | _,_,.own b n c L h hn hc'=>.own _ _ _ L (h1 _ _ h) hn hc'
 | _,_,.yl b L h=>.yl _ L (h1 _ _ h)
def VRs.rn{Z2 Z3:Ren}{g:Nat->Nat}(h1:∀b L,Z2 b=some L->Z3 (g b)=some L)(h2:∀k a,Z2.frz k=some a->Z3.frz k=some a)(h3:∀b,b<Z2.n->g b<Z3.n):∀{v:List AV}{x:List Value},VRs σ0 Z2 v x->VRs σ0 Z3 (qaX g v) x
 | _,_,.nil=>.nil
 | _,_,.cons v vs v' vs' h hs=>.cons _ _ _ _ (VR.rn h1 h2 h3 h) (VRs.rn h1 h2 h3 hs)
end
mutual
def VR.nr{Z Zs:Ren}{g:Nat->Nat}{m:Nat}(h1:∀b L,b<m->Z (g b)=some L->Zs b=some L)(h2:Zs.frz=Z.frz)(h3:Zs.n=m):∀{v:AV}{x:Value},bnd m v=true->VR σ0 Z (rnv g v) x->VR σ0 Zs v x
 | .undef,_,_,h=>by cases h;exact .undef _
 | .b _,_,_,h=>by cases h;exact .b _
 | .i _ _,_,_,h=>by cases h;exact .i _ _
 | .s _,_,_,h=>by cases h;exact .s _
 | .nilp,_,_,h=>by cases h;exact .nilp
 | .ptr b o,_,hb,h=>by
  simp only[bnd,zzb]at hb;cases h with
  | ptr _ _ L q=>exact .ptr _ _ L (h1 _ _ hb q)
 | .nils,_,_,h=>by cases h;exact .nils
 | .sl b o n c l,_,hb,h=>by
  simp only[bnd,zzb]at hb;cases h with
  | sl _ _ _ _ _ _ L q hc=>exact .sl _ _ _ _ _ _ L (h1 _ _ hb q) hc
  | slz _ _ _ _ L q=>exact .slz _ _ _ _ L (h1 _ _ hb q)
 | .nilf,_,_,h=>by cases h;exact .nilf
 | .fn f a c,_,hb,h=>by
  simp only[bnd,zzB]at hb;cases h with
  | fn _ _ _ _ _ q1 q2=>exact .fn _ _ _ _ _ (VRs.nr h1 h2 h3 hb.1 q1) (VRs.nr h1 h2 h3 hb.2 q2)
 | .nili,_,_,h=>by cases h;exact .nili
 | .ifc t v,_,hb,h=>by
  simp only[bnd]at hb;cases h with
  | ifc _ _ _ q=>exact .ifc _ _ _ (VR.nr h1 h2 h3 hb q)
 | .agg cs,_,hb,h=>by
  simp only[bnd]at hb;cases h with
  | agg _ _ q=>exact .agg _ _ (VRs.nr h1 h2 h3 hb q)
 | .tup cs,_,hb,h=>by
  simp only[bnd]at hb;cases h with
  | tup _ _ q=>exact .tup _ _ (VRs.nr h1 h2 h3 hb q)
 | .nilm,_,_,h=>by cases h;exact .nilm
 | .map b,_,hb,h=>by
  simp only[bnd,zzb]at hb;cases h with
  | map _ L q h0=>exact .map _ L (h1 _ _ hb q) h0
 | .sym j,_,_,h=>by cases h;exact .sym _
 | .fz n cs,_,_,h=>by
  cases h with
  | fz _ off c _ k arr hn q hs=>exact .fz _ off c _ k arr hn (by rw[h2];exact q) (by rw[h2];exact hs)
  | fz0 a=>exact .fz0 a
 | .pf cs o,_,_,h=>by
  cases h with
  | pf off base _ k arr q hs=>exact .pf _ base _ k arr (by rw[h2];exact q) (by rw[h2];exact hs)
 | .e0,_,_,h=>by cases h;exact .e0 _
 | .nz,_,_,h=>by cases h;exact .nz _ _
 | .own b n,_,hb,h=>by
  simp only[bnd,zzb]at hb;cases h with
  | own0 _ a q=>exact .own0 _ _ (by rw[h3];exact hb)
  | own _ _ c L q hn hc=>exact .own _ _ c L (h1 _ _ hb q) hn hc
 | .yl b,_,hb,h=>by
  simp only[bnd,zzb]at hb;cases h with
  | yl _ L q=>exact .yl _ L (h1 _ _ hb q)
 | .lp _,_,_,h=>by cases h
def VRs.nr{Z Zs:Ren}{g:Nat->Nat}{m:Nat}(h1:∀b L,b<m->Z (g b)=some L->Zs b=some L)(h2:Zs.frz=Z.frz)(h3:Zs.n=m):∀{v:List AV}{x:List Value},jq m v=true->VRs σ0 Z (qaX g v) x->VRs σ0 Zs v x
 | [],_,_,h=>by cases h;exact .nil
 | v::vs,_,hb,h=>by
  simp only[jq,zzB]at hb;cases h with
  | cons _ _ _ _ q1 q2=>exact .cons _ _ _ _ (VR.nr h1 h2 h3 hb.1 q1) (VRs.nr h1 h2 h3 hb.2 q2)
end
def gAt(at':List Nat)(d:Nat):Nat->Nat:=λb=>if b<at'.length then at'.getD b 0 else d+(b-at'.length)
omit [Cur] in
theorem qeS{at':List Nat}{d b:Nat}(h:b<at'.length):gAt at' d b=at'[b]:=by
 simp[gAt,h]
omit [Cur] in
theorem qmI{at':List Nat}{d b:Nat}(h:at'.length<=b):gAt at' d b=d+(b-at'.length):=by
 simp only[gAt];rw[if_neg Ac]
structure Lent (h:Hp) (at':List Nat) (bs:List Blk):Prop where
 len:at'.length=bs.length
 nd:at'.Nodup
 blk:∀i x,bs[i]?=some x->∃e a cs,x = .cells e true a cs/\jq bs.length cs=true/\h.tr.get (gAt at' h.sz i)=some (.cells e true a (qaX (gAt at' h.sz) cs))/\h.fl<=gAt at' h.sz i/\gAt at' h.sz i<h.sz
def Ren.small(Z:Ren)(at':List Nat)(d:Nat):Ren:=⟨λi=>if i<at'.length then Z (gAt at' d i)else none,Z.frz,at'.length⟩
omit [Cur] in
theorem qee{Z:Ren}{at':List Nat}{d i:Nat}{L:Loc}(h:Z.small at' d i=some L):i<at'.length/\Z (gAt at' d i)=some L:=by
 simp only[Ren.small]at h;exact Ad
def Bar(Z:Ren)(B:Nat->Prop)(h:Hp)(at':List Nat):Nat->Prop:=λk=>B k\/∃b L x,Z b=some L/\b ∉ at'/\h.tr.get b=some x/\x≠.dead/\L.blk=k
omit [Cur] in
theorem Lent.inj{h:Hp}{at':List Nat}{bs:List Blk}(l:Lent h at' bs){i j:Nat}(hi:i<at'.length)(hj:j<at'.length)(he:gAt at' h.sz i=gAt at' h.sz j):i=j:=by
 rw[qeS hi,qeS hj]at he
 grind[List.getElem_inj,Lent.nd]
omit [Cur] in
theorem Lent.mem{h:Hp}{at':List Nat}{i:Nat}(hi:i<at'.length):gAt at' h.sz i ∈ at':=by
 rw[qeS hi];exact Ad
def Rel.small{Z:Ren}{B:Nat->Prop}{h:Hp}{w:World}{at':List Nat}{bs:List Blk}(r:Rel σ0 Z B h w)(l:Lent h at' bs):Rel σ0 (Z.small at' h.sz) (Bar Z B h at') (mkH 0 bs) w:=by
 have get:∀i L x,Z.small at' h.sz i=some L->(mkH 0 bs).tr.get i=some x->i<at'.length/\Z (gAt at' h.sz i)=some L/\∃e a cs,x = .cells e true a cs/\jq bs.length cs=true/\h.tr.get (gAt at' h.sz i)=some (.cells e true a (qaX (gAt at' h.sz) cs))/\h.fl<=gAt at' h.sz i:=by
  intro i L x h1 h2;obtain⟨h3,h4⟩:=qee h1;rw[qan]at h2
  grind[Lent.blk]
 refine⟨λi L hb=>?_,?_,?_,?_,?_,?_,?_,?_,?_,?_⟩
 .have:=(qee hb).1;rw[l.len]at this;exact this
 .intro i L e wf af cs hb hg;obtain⟨h1,h2,e',a,cs',h3,h4,h5,h6⟩:=get i L _ hb hg;cases h3;obtain⟨q1,c,ty,fz,q2,q3,q4,q5,q6⟩:=r.cells _ L _ _ _ _ h2 h5;rw[qaA]at q4;refine⟨q1,c,ty,fz,q2,q3,q4,λj v hv=>?_,q6⟩
  obtain⟨v',p1,p2⟩:=q5 j (rnv (gAt at' h.sz) v) (by rw[qnm,hv];rfl)
  exact⟨v',p1,VR.nr (Z:=Z) (Zs:=Z.small at' h.sz) (g:=gAt at' h.sz) (m:=bs.length) (λb L hbm hbL=>by
   refine Cq ?_;exact Ac) rfl l.len (qqm h4 hv) p2⟩
 .exact Ah
 .grind[Lent.inj,Rel.excl]
 .exact Ah
 .intro b L e wf cs hb hg b' L' e' wf' af' cs' hb' hx he;obtain⟨h1,h2,e1,a1,cs1,h3,h4,h5,h6⟩:=get b L _ hb hg;obtain⟨i1,i2,e2,a2,cs2,i3,i4,i5,i6⟩:=get b' L' _ hb' hx;cases h3;cases i3;have q:=r.app _ L _ _ _ h2 h5 _ L' _ _ _ _ i2 i5 he;rw[qaA,qaA]at q
  grind[Lent.inj]
 .intro i L hb _ hbar;have hi:=(qee hb).1;have hi':i<bs.length:=Fh
  obtain⟨h1,h2,e',a,cs',h3,h4,h5,h6⟩:=get i L bs[i] hb (by rw[qan,zzE hi']);rcases hbar with hB|⟨b,L',x,g1,g2,g3,g4,g5⟩
  all_goals grind[Rel.flr,Rel.excl,Lent.mem]
 .rintro k (hB|⟨b,L',x,g1,g2,g3,g4,rfl⟩)
  .exact r.base k hB
  .exact r.blk_lt b L' g1 x g3 g4
 .intro k arr hk;refine⟨(r.frz k arr hk).1,λb L x hb hx hd=>?_⟩
  obtain⟨h1,h2,e',a,cs',h3,h4,h5,h6⟩:=get b L _ hb hx;exact(r.frz k arr hk).2 _ L _ h2 h5 (by simp)
 .refine⟨?_,λb L h=>r.dn.2 _ L (qee h).2⟩
  show at'.length<=bs.length;rw[l.len];exact Ac
def rnb(g:Nat->Nat):Blk->Blk
 | .cells e w a cs=>.cells e w a (qaX g cs)
 | .dead=>.dead
 | .map _=>.dead
def qe6:Hp->List Nat->List Blk->Hp
 | h,b::at',x::xs=>qe6 (h.put b x) at' xs
 | h,_,_=>h
omit [Cur] in
def qkq:∀{at':List Nat}{xs:List Blk}{h:Hp},(qe6 h at' xs).sz=h.sz
 | [],_,_=>Gi
 | _::_,[],_=>Gi
 | b::at',x::xs,h=>by
  show(qe6 (h.put b x) at' xs).sz=_;rw[qkq];rfl
omit [Cur] in
def qtN:∀{at':List Nat}{xs:List Blk}{h:Hp},(qe6 h at' xs).fl=h.fl
 | [],_,_=>Gi
 | _::_,[],_=>Gi
 | b::at',x::xs,h=>by
  show(qe6 (h.put b x) at' xs).fl=_;rw[qtN];rfl
omit [Cur] in
def qnf:∀{at':List Nat}{xs:List Blk}{h:Hp}{b:Nat},b ∉ at'->(qe6 h at' xs).tr.get b=h.tr.get b
 | [],_,_,_,_=>Gi
 | _::_,[],_,_,_=>Gi
 | c::at',x::xs,h,b,hb=>by
  show(qe6 (h.put c x) at' xs).tr.get b=_;rw[qnf Ad];simp only[Hp.put,zz4];rw[if_neg (λhh=>hb Ah)]
omit [Cur] in
def qtO:∀{at':List Nat}{xs:List Blk}{h:Hp}{i b:Nat},at'.Nodup->at'.length=xs.length->at'[i]?=some b->(qe6 h at' xs).tr.get b=xs[i]?
 | [],_,_,_,_,_,_,hi=>Ah
 | _::_,[],_,_,_,_,hl,_=>Ah
 | c::at',x::xs,h,0,b,hn,hl,hi=>by
  simp at hi;subst hi;show(qe6 (h.put c x) at' xs).tr.get c=_;rw[qnf Ad];simp[Hp.put,zz4]
 | c::at',x::xs,h,i+1,b,hn,hl,hi=>by
  show(qe6 (h.put c x) at' xs).tr.get b=_;rw[qtO Ad Ad (by simpa using hi)];simp
def qdj(h:Hp)(at':List Nat)(bs2:List Blk):Hp:=qap (qe6 h at' ((bs2.take at'.length).map (rnb (gAt at' h.sz)))) ((bs2.drop at'.length).map (rnb (gAt at' h.sz)))
def Ren.back(Z Z2:Ren)(at':List Nat)(d l:Nat):Ren:=⟨λb=>if b<d then Z b else Z2 (b-d+at'.length),Z2.frz,d+(l-at'.length)⟩
omit [Cur] in
def qmm{h:Hp}{at':List Nat}{bs2:List Blk}:(qdj h at' bs2).sz=h.sz+(bs2.length-at'.length):=by
 unfold qdj;rw[qfI,qkq];simp
omit [Cur] in
def qqi{h:Hp}{at':List Nat}{bs2:List Blk}:(qdj h at' bs2).fl=h.fl:=by
 unfold qdj;rw[qhL,qtN]
omit [Cur] in
def qnZ{h:Hp}{at':List Nat}{bs2:List Blk}{b:Nat}(hb:b<h.sz)(hm:b ∉ at'):(qdj h at' bs2).tr.get b=h.tr.get b:=by
 unfold qdj;rw[qbt,qkq,if_pos hb,qnf hm]
omit [Cur] in
def qww{h:Hp}{at':List Nat}{bs2:List Blk}(hn:at'.Nodup)(hl:at'.length<=bs2.length)(hlt:∀b ∈ at',b<h.sz){i:Nat}(hi:i<at'.length):(qdj h at' bs2).tr.get (gAt at' h.sz i)=(bs2[i]?).map (rnb (gAt at' h.sz)):=by
 have hm:gAt at' h.sz i ∈ at':=Lent.mem hi;unfold qdj;rw[qbt,qkq,if_pos (hlt _ hm),qtO (i:=i) hn Ad (by rw[qeS hi];exact Ad),zzo,zzq hi]
omit [Cur] in
theorem qux{h:Hp}{at':List Nat}{bs2:List Blk}{i:Nat}(hi:at'.length<=i)(hi2:i<bs2.length):(qdj h at' bs2).tr.get (gAt at' h.sz i)=(bs2[i]?).map (rnb (gAt at' h.sz)):=by
 unfold qdj;rw[qmI hi,qbt,qkq,if_neg Ac,if_pos Ah,zzo,zzp];rw[show at'.length+(h.sz+(i-at'.length)-h.sz)=i from Ac]
def Rel.back{Z Z2:Ren}{B:Nat->Prop}{h:Hp}{w w1:World}{at':List Nat}{bs bs2:List Blk}(r:Rel σ0 Z B h w)(l:Lent h at' bs)(r2:Rel σ0 Z2 (Bar Z B h at') (mkH 0 bs2) w1)(hl:at'.length<=bs2.length)
  (he:∀i,i<at'.length->Z2 i=Z.small at' h.sz i) (hp:∀k,Bar Z B h at' k->w1.heap[k]?=w.heap[k]?) (hw:w.heap.size<=w1.heap.size)
  (f1:∀k a,Z.frz k=some a->Z2.frz k=some a) (f2:∀k a,Z2.frz k=some a->Z.frz k=some a\/¬Bar Z B h at' k):(∀b L,Z2 b=some L->Z.back Z2 at' h.sz bs2.length (gAt at' h.sz b)=some L)/\Rel σ0 (Z.back Z2 at' h.sz bs2.length) B (qdj h at' bs2) w1:=by
 have hlt:∀b ∈ at',b<h.sz:=by
  intro b hb;obtain⟨i,hi,rfl⟩:=List.getElem_of_mem hb;have hi':i<bs.length:=Fh
  obtain⟨_,_,_,_,_,_,_,h6⟩:=l.blk i bs[i] Ad;rwa [qeS hi]at h6
 have up:∀b L,Z2 b=some L->Z.back Z2 at' h.sz bs2.length (gAt at' h.sz b)=some L:=by
  intro b L hb;show(if gAt at' h.sz b<h.sz then Z (gAt at' h.sz b)else Z2 (gAt at' h.sz b-h.sz+at'.length))=some L
  grind[Lent.mem,qee,qmI]
 refine⟨up,?_⟩
 have nle:∀b,b<Z2.n->gAt at' h.sz b<h.sz+(bs2.length-at'.length):=by
  intro b hb;have hb2:b<bs2.length:=zzh hb r2.dn.1
  grind[Lent.mem,qmI]
 have le1:∀b L,Z b=some L->Z.back Z2 at' h.sz bs2.length b=some L:=by
  intro b L hb;show(if b<h.sz then Z b else _)=some L
  rw[if_pos (r.dom b L hb)];exact hb
 have le2:Z.le (Z.back Z2 at' h.sz bs2.length):=⟨le1,f1,zzg r.dn.1 (Nat.le_add_right _ _)⟩
 -- a block: an old one that stayed,or one of the small heap
 have split:∀b L,Z.back Z2 at' h.sz bs2.length b=some L->(b ∉ at'/\Z b=some L/\(qdj h at' bs2).tr.get b=h.tr.get b) \/
   ∃c,b=gAt at' h.sz c/\Z2 c=some L/\(qdj h at' bs2).tr.get b=((mkH 0 bs2).tr.get c).map (rnb (gAt at' h.sz)):=by
  intro b L hb;have hb':(if b<h.sz then Z b else Z2 (b-h.sz+at'.length))=some L:=hb
  by_cases hbs:b<h.sz
  .rw[if_pos hbs]at hb'
   by_cases hm:b ∈ at'
   .obtain⟨i,hi,rfl⟩:=List.getElem_of_mem hm;refine .inr ⟨i,(qeS hi).symm,?_,?_⟩
    .rw[he i hi];show(if i<at'.length then Z (gAt at' h.sz i)else none)=some L
     rw[if_pos hi,qeS hi];exact hb'
    .have:=qww (bs2:=bs2) l.nd hl hlt hi;rw[qeS hi]at this;rw[this,qan]
   simp_all[qnZ]
  .rw[if_neg hbs]at hb';have hc:b-h.sz+at'.length<bs2.length:=r2.dom _ L hb';have e:gAt at' h.sz (b-h.sz+at'.length)=b:=by rw[qmI Ac];exact Ac
   grind[qux,qan]
 have apart:∀b L x c L2,b ∉ at'->Z b=some L->h.tr.get b=some x->x≠.dead->Z2 c=some L2->L2.blk≠L.blk:=by
  intro b L x c L2 h1 h2 h3 h4 h5 h6;exact r2.flr c L2 h5 (zzu _) (.inr Ah)
 have shc:∀{o:Option Blk}{e:Nat}{w a:Bool}{cs:List AV},o.map (rnb (gAt at' h.sz))=some (.cells e w a cs)->∃cs0,o=some (.cells e w a cs0)/\cs=qaX (gAt at' h.sz) cs0:=by
  intro o e w a cs ho;cases o with
  | none=>exact Ah
  | some x =>
   cases x with
   | cells e' w' a' cs'=>simp[rnb]at ho;exact Ad
   | dead=>simp[rnb]at ho
   | map es=>simp[rnb]at ho
 have shn:∀{o:Option Blk}{y:Blk},o.map (rnb (gAt at' h.sz))=some y->y≠.dead->∃x,o=some x/\x≠.dead:=by
  intro o y ho hy;cases o with
  | none=>exact Ah
  | some x =>
   refine⟨x,rfl,λhx=>?_⟩
   subst hx;simp[rnb]at ho;exact Ah
 have shm:∀{o:Option Blk}{es:List (AV×AV)},o.map (rnb (gAt at' h.sz))=some (.map es)->False:=by
  intro o es ho;cases o with
  | none=>exact Ah
  | some x=>cases x<;>simp[rnb]at ho
 refine⟨λb L hb=>?_,?_,?_,?_,?_,?_,?_,qfT r.base hw,?_,?_⟩
 .rw[qmm];have hb':(if b<h.sz then Z b else Z2 (b-h.sz+at'.length))=some L:=hb
  by_cases hbs:b<h.sz
  .omega
  .rw[if_neg hbs]at hb';have hc:b-h.sz+at'.length<bs2.length:=r2.dom _ L hb';omega
 .intro b L e wf af cs hb hg;rcases split b L hb with⟨h1,h2,h3⟩|⟨c,rfl,h2,h3⟩
  .rw[h3]at hg;obtain⟨q1,c,ty,fz,q2,q3,q4,q5,q6⟩:=r.cells b L e wf af cs h2 hg;exact⟨q1,c,ty,fz,by rw[hp _ (.inr Ah)];exact q2,q3,q4,Dj,q6⟩
  .rw[h3]at hg;obtain⟨cs0,g1,rfl⟩:=shc hg;obtain⟨q1,c',ty,fz,q2,q3,q4,q5,q6⟩:=r2.cells c L e wf af cs0 h2 g1;refine⟨q1,c',ty,fz,q2,q3,by rw[qaA];exact q4,λj v hv=>?_,q6⟩
   rw[qnm]at hv;cases hj:cs0[j]? with
   | none=>rw[hj]at hv;grind
   | some v0 =>
    rw[hj]at hv;simp at hv;subst hv;obtain⟨v',g7,g8⟩:=q5 j v0 hj;exact⟨v',g7,VR.rn (Z3:=Z.back Z2 at' h.sz bs2.length) up (λ_ _ h=>h) nle g8⟩
 .intro b L es hb hg;rcases split b L hb with⟨h1,h2,h3⟩|⟨c,rfl,h2,h3⟩
  .rw[h3]at hg;obtain⟨q1,o,q2,q3⟩:=r.maps b L es h2 hg;exact⟨q1,o,by rw[hp _ (.inr Ah)];exact q2,q3.mono le2⟩
  grind
 .intro b L e af cs hb hg b' L' x hb' hx hd hee;rcases split b L hb with⟨h1,h2,h3⟩|⟨c,rfl,h2,h3⟩<;>rcases split b' L' hb' with⟨i1,i2,i3⟩|⟨c',rfl,i2,i3⟩
  .rw[h3]at hg;rw[i3]at hx
   grind[Rel.excl]
  .rw[h3]at hg
   grind
  .rw[i3]at hx
   grind
  .rw[h3]at hg;rw[i3]at hx;obtain⟨cs0,g1,rfl⟩:=shc hg;obtain⟨x0,g2,g3⟩:=shn hx hd;rw[r2.excl c L e af cs0 h2 g1 c' L' x0 i2 g2 g3 hee]
 .intro b L es hb hg b' L' x hb' hx hd hee;rcases split b L hb with⟨h1,h2,h3⟩|⟨c,rfl,h2,h3⟩
  .rw[h3]at hg;rcases split b' L' hb' with⟨i1,i2,i3⟩|⟨c',rfl,i2,i3⟩
   .rw[i3]at hx;exact C0
   .exact Ah
  grind
 .intro b L e wf cs hb hg b' L' e' wf' af' cs' hb' hx hee;rcases split b L hb with⟨h1,h2,h3⟩|⟨c,rfl,h2,h3⟩<;>rcases split b' L' hb' with⟨i1,i2,i3⟩|⟨c',rfl,i2,i3⟩
  .rw[h3]at hg;rw[i3]at hx;exact r.app b L e wf cs h2 hg b' L' e' wf' af' cs' i2 hx hee
  .rw[h3]at hg
   grind
  .rw[i3]at hx
   grind
  .rw[h3]at hg;rw[i3]at hx;obtain⟨cs0,g1,rfl⟩:=shc hg;obtain⟨cs1,g2,rfl⟩:=shc hx;have q:=r2.app c L e wf cs0 h2 g1 c' L' e' wf' af' cs1 i2 g2 hee;rw[qaA,qaA]
   grind
 .intro b L hb hf hB;rw[qqi]at hf;rcases split b L hb with⟨h1,h2,h3⟩|⟨c,rfl,h2,h3⟩
  .grind[Rel.flr]
  .exact r2.flr c L h2 (zzu _) (.inl hB)
 .intro k arr hk;refine⟨(r2.frz k arr hk).1,λb L x hb hx hd=>?_⟩
  rcases split b L hb with⟨h1,h2,h3⟩|⟨c,rfl,h2,h3⟩
  .rw[h3]at hx;rcases f2 k arr hk with g|g
   .grind[Rel.frz]
   .exact λhh=>g (.inr Ah)
  .rw[h3]at hx;obtain⟨x0,g2,g3⟩:=shn hx hd;exact(r2.frz k arr hk).2 c L x0 h2 g2 g3
 .refine⟨?_,λb L hb=>?_⟩
  .show h.sz+(bs2.length-at'.length)<=_;rw[qmm];omega
  .rcases split b L hb with⟨_,h2,_⟩|⟨c,rfl,h2,_⟩
   .exact zzh (r.dn.2 b L h2) hw
   .exact r2.dn.2 c L h2
def qAy(m:Nat)(v:AV)(bs2:List Blk)(v':AV)(h':Hp):Prop:=h'.fl=0->∃src:List Nat,NV (rl src h'.sz) bs2.length v' v/\BWs h' (rl src h'.sz) bs2.length src bs2/\(src.filter λb=>decide (b<h'.sz)).Nodup/\∀b,b<m->rl src h'.sz b=b
def qAx(m:Nat)(v:AV)(bs2:List Blk)(v':AV)(h':Hp):Prop:=h'.fl=0->Wk m (mkT [(0,v')]) h' (mkT [(0,v)]) (mkH 0 bs2)
theorem qAy.w{m:Nat}{v:AV}{bs2:List Blk}{v':AV}{h':Hp}(hz:qAy m v bs2 v' h')(hle:m<=bs2.length):qAx m v bs2 v' h':=by
 intro hfl;obtain⟨src,s1,s2,s3,s4⟩:=hz hfl;exact Wk.mkn [(0,v)] bs2 src ⟨⟨v',Ej,s1⟩,trivial⟩ s2 s3 hfl hle s4
def Upd(P:Program)(f:Nat)(vs:List AV)(bs:List Blk)(v:AV)(bs2:List Blk):Prop :=
 jq bs.length vs=true/\bs.length<=bs2.length/\SC P f vs (mkH 0 bs) (qAx bs.length v bs2)
theorem Upd.mk{f:Nat}{i:IFn}{vs:List AV}{v:AV}{bs bs2:List Blk}(hc:qdN P f i=true)(hb:jq bs.length vs=true)(hl:bs.length<=bs2.length)(hV:V P bs.length i.body (xG i.res (qAy bs.length v bs2)) (qaS vs 0 .leaf) (mkH 0 bs)):Upd P f vs bs v bs2 :=
 ⟨hb,hl,(SC.mk hc (qj hV)).mono (by grind[qAy.w])⟩
def Upd.sc{f:Nat}{vs:List AV}{bs bs2:List Blk}{v:AV}{h:Hp}{k:AV->Hp->Prop}(at':List Nat)(hu:Upd P f vs bs v bs2)(l:Lent h at' bs)(hk:k (rnv (gAt at' h.sz) v) (qdj h at' bs2)):SC P f (qaX (gAt at' h.sz) vs) h k:=by
 obtain⟨hb,hle,hu⟩:=hu;refine⟨hu.1,λZ B w args r ha=>?_⟩
 have hle':at'.length<=bs2.length:=by rw[l.len];exact Ac
 have ha':VRs σ0 (Z.small at' h.sz) vs args.toList:=VRs.nr (Z:=Z) (Zs:=Z.small at' h.sz) (g:=gAt at' h.sz) (m:=bs.length) (λb L hbm hbL=>by
  refine Cq ?_;exact Ac) rfl l.len hb ha
 refine qcb.mono (hu.2 (Z.small at' h.sz) (Bar Z B h at') w args (r.small l) ha') ?_;rintro e w1 ⟨v0,v',h1,Z1,rfl,g1,g2,g3,g4⟩;have hw:Wk bs.length (mkT [(0,v0)]) h1 (mkT [(0,v)]) (mkH 0 bs2):=g1 g4.fl
 obtain⟨Z2,t2,r2,k2⟩:=hw Z1 (Bar Z B h at') w1 #[v'] (λj x hj=>by
  have:=qeH hj
  exact Ad) g3
 have hv2:VR σ0 Z2 v v':=by
  have:=(t2 0 v Ej).2
  exact Ad
 have he:∀i,i<at'.length->Z2 i=Z.small at' h.sz i:=λi hi=>(k2.ext i Fh).trans (by grind[Kept.ext,qGz,Lent.len])
 have f1:∀k a,Z.frz k=some a->Z2.frz k=some a:=λk a hk=>k2.frz k a (g4.frz k a hk)
 have f2:∀k a,Z2.frz k=some a->Z.frz k=some a\/¬Bar Z B h at' k:=λk a hk=>(k2.fnew k a hk).elim (g4.fnew k a) .inr
 obtain⟨up,big⟩:=Rel.back r l r2 hle' he g4.pres g4.wle f1 f2
 have nle:∀b,b<Z2.n->gAt at' h.sz b<(Z.back Z2 at' h.sz bs2.length).n:=by
  intro b hb;have hb2:b<bs2.length:=zzh hb r2.dn.1;show _<h.sz+(bs2.length-at'.length)
  by_cases hbm:b<at'.length
  .have hbm':b<bs.length:=by rw[<- l.len];exact hbm
   obtain⟨_,_,_,_,_,_,_,h6⟩:=l.blk b bs[b] Ad;exact Ac
  grind[qmI]
 refine⟨_,v',_,Z.back Z2 at' h.sz bs2.length,rfl,hk,VR.rn up (λ_ _ h=>h) nle hv2,big,?_⟩
 refine⟨λb hb=>?_,by rw[qmm];exact Ac,qqi,λb hf hb=>qnZ hb (λhm=>?_),λk hk=>g4.pres k (.inl hk),g4.wle,g4.io,f1,λk a hk=>(f2 k a hk).imp id (λhh hB=>hh (.inl hB)),zzg r.dn.1 (Nat.le_add_right _ _)⟩
 .show (if b<h.sz then Z b else _)=Z b
  rw[if_pos hb]
 .obtain⟨i,hi,rfl⟩:=List.getElem_of_mem hm;have hi':i<bs.length:=Fh
  obtain⟨_,_,_,_,_,_,h5,_⟩:=l.blk i bs[i] Ad;rw[qeS hi]at h5;exact Ac
end
section
variable [Cur]
variable {P:Program}{h:Hp}
def qfz(h:Hp)(g:Nat->Nat)(m:Nat):List Nat->List Blk->Prop
 | [],[]=>True
 | b::at',.cells e true a cs::xs=>(jq m cs=true/\evB (h.tr.get b) (λy=>y=Blk.cells e true a (qaX g cs))/\h.fl<=b/\b<h.sz)/\qfz h g m at' xs
 | _,_=>False
omit [Cur] in
theorem qfz.get{g:Nat->Nat}{m:Nat}:∀{at':List Nat}{bs:List Blk},qfz h g m at' bs->at'.length=bs.length/\∀(i:Nat) (x:Blk),bs[i]?=some x->∃b e a cs,at'[i]?=some b/\x = .cells e true a cs/\jq m cs=true/\h.tr.get b=some (.cells e true a (qaX g cs))/\h.fl<=b/\b<h.sz
 | [],[],_=>⟨rfl,by simp⟩
 | [],_::_,hh=>F9
 | _::_,[],hh=>F9
 | b::at',.dead::xs,hh=>F9
 | b::at',.map _::xs,hh=>F9
 | b::at',.cells e false a cs::xs,hh=>F9
 | b::at',.cells e true a cs::xs,hh=>by
  obtain⟨⟨h1,⟨y,h2,h3⟩,h4,h5⟩,h6⟩:=hh;subst h3;obtain⟨h7,h8⟩:=qfz.get h6
  exact Ah
omit [Cur] in
def Lent.of{at':List Nat}{bs:List Blk}(hn:at'.Nodup)(hl:qfz h (gAt at' h.sz) bs.length at' bs):Lent h at' bs:=by
 obtain⟨h1,h2⟩:=hl.get;refine⟨h1,hn,λi x hx=>?_⟩
 grind[qeS]
omit [Cur] in
def qyp{g:Nat->Nat}{m:Nat}:qfz h g m [] []↔True:=Iff.rfl
omit [Cur] in
def qvf{g:Nat->Nat}{m b e:Nat}{at':List Nat}{a:Bool}{cs:List AV}{xs:List Blk}:qfz h g m (b::at') (.cells e true a cs::xs)↔(jq m cs=true/\evB (h.tr.get b) (λy=>y=Blk.cells e true a (qaX g cs))/\h.fl<=b/\b<h.sz)/\qfz h g m at' xs:=Iff.rfl
omit [Cur] in
def qC{s f b:Nat}{tr:Tr Blk}{x:Blk}:Hp.put ⟨s,f,tr⟩ b x=⟨s,f,tr.set b x⟩:=rfl
omit [Cur] in
def qru{xs:List Blk}:qe6 h [] xs=h:=Gi
omit [Cur] in
def qoH{b:Nat}{at':List Nat}{x:Blk}{xs:List Blk}:qe6 h (b::at') (x::xs)=qe6 (h.put b x) at' xs:=rfl
omit [Cur] in
def qDe{g:Nat->Nat}{v:AV}(hv:clo v=true):rnv g v=v:=by
 have key:(∀v:AV,clo v=true->rnv g v=v):=λv=>by
  refine AV.rec (motive_1:=λv=>clo v=true->rnv g v=v) (motive_2:=λvs=>qu vs=true->qaX g vs=vs) ?_ ?_ ?_ ?_ ?_ ?_ ?_ ?_ ?_ ?_ ?_ ?_ ?_ ?_ ?_ ?_ ?_ ?_ ?_ ?_ ?_ ?_ ?_ ?_ ?_ ?_ v
  all_goals first
   | (intros;rfl)
   | (intros;rename_i hh;simp[clo]at hh;done)
   | skip
  .intro f a c h1 h2 hh;simp only[clo,zzB]at hh;simp only[rnv,h1 hh.1,h2 hh.2]
  .intro t v h1 hh;exact Gq
  .intro cs h1 hh;exact Gq
  .intro cs h1 hh;exact Gq
  .intro v vs h1 h2 hh;simp only[qu,zzB]at hh;simp only[qaX,h1 hh.1,h2 hh.2]
 exact Ad
omit [Cur] in
def qf{g:Nat->Nat}:∀{vs:List AV},qu vs=true->qaX g vs=vs
 | [],_=>rfl
 | v::vs,h=>by
  simp only[qu,zzB]at h;simp only[qaX,qDe h.1,qf h.2]
def jR:Blk->Bool
 | .dead=>false
 | _=>true
omit [Cur] in
def qoA{α β:Type}{f:α->β}{p:α->Bool}:∀{l:List α},((l.filter p).map f).Nodup->∀{i j:Nat}{x y:α},l[i]?=some x->l[j]?=some y->p x=true->p y=true->f x=f y->i=j
 | [],_,i,j,x,y,hi,_,_,_,_=>Ah
 | a::l,hn,i,j,x,y,hi,hj,hx,hy,he=>by
  have tail:((l.filter p).map f).Nodup:=by
   rw[List.filter_cons]at hn
   exact Ah
  have no:∀{z:α}{m:Nat},l[m]?=some z->p z=true->p a=true->f a=f z->False:=Ah
  cases i with
  | zero =>
   exact Ah
  | succ i =>
   cases j with
   | zero=>exact Ah
   | succ j =>
    have hij:i=j:=qoA tail (i:=i) (j:=j) Ad Ad hx hy he;rw[hij]
theorem Wk.mkd{n:Nat}{t:Tr AV}(ts:List (Nat×AV))(bl:List Blk)(src:List Nat)(hT:TWs t (rl src h.sz) bl.length ts)(hB:BWs h (rl src h.sz) bl.length src bl)
  (hI:(((src.zip bl).filter λp=>decide (p.1<h.sz)&&jR p.2).map Prod.fst).Nodup) (hfl:h.fl=0) (hn:n<=bl.length) (hlow:∀b,b<n->rl src h.sz b=b):Wk n t h (mkT ts) (mkH 0 bl):=by
 obtain⟨hlen,hget⟩:=hB.get;refine Wk.of (r:=rl src h.sz) ⟨hfl.symm,λb' x' hb hg=>?_,λb1 b2 h1 h2 l1 l2 he hl=>?_,λb' _ _ _=>by rw[hfl];exact Ac,hlow,hn,λb _ hb=>by rw[hfl]at hb;exact Ac,λj v' hj=>?_⟩
 .exact Bv
 .obtain⟨x1,g1,d1⟩:=l1;obtain⟨x2,g2,d2⟩:=l2;rw[qan]at g1 g2;obtain⟨c1,q1,_⟩:=hget b1 x1 g1;obtain⟨c2,q2,_⟩:=hget b2 x2 g2;have e1:rl src h.sz b1=c1:=by simp[rl,zzs,q1]
  have e2:rl src h.sz b2=c2:=by simp[rl,zzs,q2]
  rw[e1,e2]at he;rw[e1]at hl;have v1:jR x1=true:=by cases x1<;>first|rfl|exact absurd rfl d1
  have v2:jR x2=true:=by cases x2<;>first|rfl|exact absurd rfl d2
  refine qoA hI (i:=b1) (j:=b2) (x:=(c1,x1)) (y:=(c2,x2)) ?_ ?_ ?_ ?_ he
  all_goals grind
 .exact hT.get _ (qeH hj)
omit [Cur] in
def qvt{b o:Nat}{k:AV->Prop}:qlB (.ptr b o) k↔k (.ptr b o):=Iff.rfl
omit [Cur] in
def qyM{cs:List AV}{o:Nat}{k:AV->Prop}:qlB (.pf cs o) k↔k (.pf cs o):=Iff.rfl
omit [Cur] in
def qvs{b:Nat}{k:AV->Prop}:qlB (.map b) k↔k (.map b):=Iff.rfl
omit [Cur] in
def qyN{b:Nat}{k:AV->Prop}:qlB (.yl b) k↔k (.yl b):=Iff.rfl
omit [Cur] in
def qyL{f:Nat}{a c:List AV}{k:AV->Prop}:qlB (.fn f a c) k↔k (.fn f a c):=Iff.rfl
omit [Cur] in
def qDI{C:zA}{ops:List ROp}{Q:Tr AV->Hp->Prop}{t:Tr AV}{s f f':Nat}{tr:Tr Blk}:VR' C ops Q t (Hp.down ⟨s,f,tr⟩ f')↔VR' C ops Q t ⟨s,f',tr⟩:=Iff.rfl
omit [Cur] in
def qK2{C:zA}{ops:List ROp}{Q:Tr AV->Hp->Prop}{t:Tr AV}{s f:Nat}{tr:Tr Blk}{dst:Option Nat}{o:IOp}:VR' C (⟨dst,.op o,none⟩::ops) Q t ⟨s,f,tr⟩ ↔
  if wr (.op o)=true then opK qB o t ⟨s,f,tr⟩ (λv h'=>wu t dst v (λt'=>VR' C ops Q t' h'))else opK qB o t ⟨s,s,tr⟩ (λv h'=>wu t dst v (λt'=>VR' C ops Q t' (h'.down f))):=qEG
omit [Cur] in
def qIe{C:zA}{Q:Tr AV->Hp->Prop}{t:Tr AV}{s f:Nat}{tr:Tr Blk}:VR' C [] Q t ⟨s,f,tr⟩↔Q t ⟨s,f,tr⟩:=Iff.rfl
omit [Cur] in
def qAX{m:Nat}:∀{v:AV},clo v=true->bnd m v=true:=by
 intro v;refine AV.rec (motive_1:=λv=>clo v=true->bnd m v=true) (motive_2:=λvs=>qu vs=true->jq m vs=true) ?_ ?_ ?_ ?_ ?_ ?_ ?_ ?_ ?_ ?_ ?_ ?_ ?_ ?_ ?_ ?_ ?_ ?_ ?_ ?_ ?_ ?_ ?_ ?_ ?_ ?_ v
 all_goals first
  | (intros;rfl)
  | (intros;rename_i hh;simp[clo]at hh;done)
  | skip
 .intro f a c h1 h2 hh;simp only[clo,zzB]at hh;simp only[bnd,h1 hh.1,h2 hh.2,Bool.and_self]
 .intro t v h1 hh;exact Gr
 .intro cs h1 hh;exact Gr
 .intro cs h1 hh;exact Gr
 .intro v vs h1 h2 hh;simp only[qu,zzB]at hh;simp only[jq,h1 hh.1,h2 hh.2,Bool.and_self]
omit [Cur] in
def qv{m:Nat}:∀{vs:List AV},qu vs=true->jq m vs=true
 | [],_=>rfl
 | v::vs,h=>by
  simp only[qu,zzB]at h;simp only[jq,qAX h.1,qv h.2,Bool.and_self]
end
section
variable [Cur]
def vQ:=zzA @List.map_cons.{0,0} (zzA @List.map_nil.{0,0} (zzA @Bool.and_true (zzA @Bool.true_and (zzA @Bool.and_self (zzA @and_self (zzA @Tr.get_set (zzA @decide_eq_true_eq (zzA @Bool.false_eq_true (zzA @true_and (zzA @and_true (zzA @List.getElem?_cons_zero.{0} (zzA @List.getElem?_cons_succ.{0} (zzA @List.length_cons.{0} (zzA @List.length_nil.{0} (zzA @List.take_zero.{0} (zzA @List.take_succ_cons.{0} (zzA @List.drop_zero.{0} (zzA @List.drop_succ_cons.{0} (zzA @List.drop_nil.{0} (zzA @List.take_nil.{0} (zzA @List.nil_append.{0} (zzA @List.cons_append.{0} (zzA @List.append_nil.{0} (zzA @Nat.zero_add (zzA @Nat.add_zero (zzA @zzL (zzA @Nat.zero_le (zzA @Int.toNat_natCast (zzA @Int.natCast_nonneg (zzA @Int.ofNat_lt (zzA @Bool.not_true (zzA @Bool.not_false (zzA @decide_true (zzA @decide_false (zzA @Bool.xor_false (zzA @Bool.xor_true (zzA @Bool.false_xor (zzA @Bool.true_xor (zzA @Nat.lt_irrefl (zzA @List.replicate_succ.{0} (zzA @List.replicate_zero.{0} (zzA @List.flatten_cons.{0} (zzA @List.flatten_nil.{0} (zzA @Nat.succ_eq_add_one (zzA @Option.isNone_none.{0} (zzA @Option.isSome_none.{0} (zzA @Bool.false_and (zzA @Bool.and_false (zzA @Nat.sub_zero (zzA @qru (zzA @qoH (zzA @qC (zzA @qB6 (zzA @ql5 (zzA @qie (zzA @qgd @List.append_assoc.{0}))))))))))))))))))))))))))))))))))))))))))))))))))))))))
def vX:=zzA @qDI (zzA @qK2 (zzA @qIe (zzA @qze (zzA @qzf (zzA @qvB (zzA @qy9 (zzA @qvt (zzA @qyM (zzA @qvs (zzA @qyN @qyL))))))))))
def vU:=zzA @shb.eq_1 (zzA @shb.eq_2 (zzA @shb.eq_3 (zzA @shv.eq_1 (zzA @shv.eq_2 (zzA @shv.eq_3 (zzA @shv.eq_4 (zzA @shv.eq_5 (zzA @shv.eq_6 (zzA @shv.eq_7 (zzA @shv.eq_8 (zzA @shv.eq_9 (zzA @shv.eq_10 (zzA @qgS.eq_1 @qgS.eq_2)))))))))))))
def vY:=zzA vU (zzA @qc7.eq_1 (zzA @qc7.eq_2 (zzA @cellsOf.eq_1 (zzA @cellsOf.eq_2 (zzA @wr.eq_1 (zzA @wr.eq_2 (zzA @wr.eq_3 (zzA @wr.eq_4 (zzA @wr.eq_5 (zzA @wr.eq_6 (zzA @wr.eq_7 (zzA @wr.eq_8 (zzA @wr.eq_9 (zzA @wr.eq_10 (zzA @wr.eq_11 (zzA @qao.eq_1 @qao.eq_2))))))))))))))))
def vS:=zzA vA (zzA vE (zzA vO (zzA vB (zzA vF (zzA vM (zzA vR vX))))))
def vT:=zzA vY (zzA @qFw (zzA @qFx (zzA vP (zzA vC (zzA vQ (zzA @qt6 (zzA @qrI (zzA not_false_eq_true (zzA @eq_self.{1} @Int.cast_ofNat_Int)))))))))
def vw:=zzA vW (zzA @qBA (zzA @qJN (zzA @qJM (zzA @qFG (zzA @qbG (zzA @qb1 (zzA @qaB (zzA @jj (zzA @qE9 (zzA @qov (zzA @qvo (zzA @qsj (zzA @qri (zzA vP (zzA vZ @Tr.get_set)))))))))))))))
def vK:=zzA (zzA @qdj.eq_1 (zzA @rnb.eq_1 (zzA @rnb.eq_2 (zzA @rnb.eq_3 (zzA @qaX.eq_1 (zzA @qaX.eq_2 (zzA @rnv.eq_1 (zzA @rnv.eq_2 (zzA @rnv.eq_3 (zzA @rnv.eq_4 (zzA @rnv.eq_5 (zzA @rnv.eq_6 (zzA @rnv.eq_7 (zzA @rnv.eq_8 (zzA @rnv.eq_9 (zzA @rnv.eq_10 @gAt.eq_1)))))))))))))))) (zzA @List.cons_append.{0} (zzA @List.nil_append.{0} (zzA @List.length_cons.{0} (zzA @List.length_nil.{0} (zzA Nat.zero_add (zzA @List.take_succ_cons.{0} (zzA @List.take_zero.{0} (zzA @List.drop_succ_cons.{0} (zzA @List.drop_zero.{0} (zzA @List.map_cons.{0,0} (zzA @List.map_nil.{0,0} (zzA @List.getD_cons_zero.{0} (zzA @List.getD_cons_succ.{0} (zzA @qoH (zzA @qru (zzA @qgd (zzA @qie (zzA @qC @ql5))))))))))))))))))
def vJ:=zzA vU (zzA @qgd (zzA @qie (zzA @ql5 (zzA @qt6 (zzA @qrI (zzA @List.map_cons.{0,0} (zzA @List.map_nil.{0,0} (zzA @qEu (zzA @qsZ Nat.zero_add)))))))))
def vL:=zzA vU (zzA (zzA @jq.eq_1 (zzA @jq.eq_2 (zzA @bnd.eq_1 (zzA @bnd.eq_2 (zzA @bnd.eq_3 (zzA @bnd.eq_4 (zzA @bnd.eq_5 (zzA @bnd.eq_6 (zzA @bnd.eq_7 (zzA @bnd.eq_8 (zzA @bnd.eq_9 (zzA @bnd.eq_10 (zzA @qaX.eq_1 (zzA @qaX.eq_2 (zzA @rnv.eq_1 (zzA @rnv.eq_2 (zzA @rnv.eq_3 (zzA @rnv.eq_4 (zzA @rnv.eq_5 (zzA @rnv.eq_6 (zzA @rnv.eq_7 (zzA @rnv.eq_8 (zzA @rnv.eq_9 (zzA @rnv.eq_10 @gAt.eq_1)))))))))))))))))))))))) (zzA @qvf (zzA @qyp (zzA @qgd (zzA @qie @ql5)))))
abbrev AV.j(n:Int):AV:=.i .i64 n
abbrev AV.w(n:Int):AV:=.i .u32 n
abbrev AV.h(n:Int):AV:=.i .u16 n
abbrev AV.y(n:Int):AV:=.i .u8 n
abbrev AV.x(n:Int):AV:=.i .u64 n
abbrev Blk.v(l:List AV):Blk:=.cells 0 true false l
def sq:List ICode->ICode
 | []=>.skip
 | [x]=>x
 | x::y::l=>.seq x (sq (y::l))
def sq1:sq []=.skip:=rfl
def sq2{x:ICode}:sq [x]=x:=rfl
def sq3{x y:ICode}{l:List ICode}:sq (x::y::l)=.seq x (sq (y::l)):=rfl
def ROp.q(n:Nat)(o:IOp):ROp:=⟨some n,.op o,none⟩
def ROp.m(n:Nat)(x:O):ROp:=⟨some n,.op (.mov x),none⟩
def ROp.g(n:Nat)(o:IOp)(c:Nat)(b:Bool):ROp:=⟨some n,.op o,some (c,b)⟩
def ROp.l(n f:Nat)(xs:List O):ROp:=⟨some n,.callF f xs,none⟩
def ROp.u(o:IOp):ROp:=⟨none,.op o,none⟩
def ICode.r(ops:List ROp):ICode:=.reg false ops
def O.k(n:Int):O:=.c (.i .i64 n)
omit [Cur] in
def q_q{n:Nat}{o:IOp}:ROp.q n o=⟨some n,.op o,none⟩:=rfl
omit [Cur] in
def q_m{n:Nat}{x:O}:ROp.m n x=⟨some n,.op (.mov x),none⟩:=rfl
omit [Cur] in
def q_g{n:Nat}{o:IOp}{c:Nat}{b:Bool}:ROp.g n o c b=⟨some n,.op o,some (c,b)⟩:=rfl
omit [Cur] in
def q_l{n f:Nat}{xs:List O}:ROp.l n f xs=⟨some n,.callF f xs,none⟩:=rfl
omit [Cur] in
def q_u{o:IOp}:ROp.u o=⟨none,.op o,none⟩:=rfl
omit [Cur] in
def q_r{ops:List ROp}:ICode.r ops = .reg false ops:=rfl
omit [Cur] in
def q_k{n:Int}:O.k n = .c (.i .i64 n):=rfl
section
set_option maxRecDepth 1000000
def rnG:List Nat->Nat->Nat
 | a::b::r,f=>if a=f then b else rnG r f
 | _,f=>f
def vG(R:List Nat):Nat->Value->AV
 | 0,_=>.undef
 | _,.bool b=>.b b
 | _,.int k n=>.i k n
 | _,.string s=>.s s.data.toList
 | _,.pointer none=>.nilp
 | _,.slice none 0 0=>.nils
 | _,.nilFunc=>.nilf
 | _,.nilIface=>.nili
 | _,.map none=>.nilm
 | n+1,.agg cs=>.agg (cs.toList.map (vG R n))
 | n+1,.tuple cs=>.tup (cs.toList.map (vG R n))
 | n+1,.func (.func f) a b=>.fn (rnG R f) (a.toList.map (vG R n)) (b.toList.map (vG R n))
 | n+1,.iface t v=>.ifc t (vG R n v)
 | _,_=>.undef
def oG(R:List Nat):Operand->O
 | .tmp t=>.t t
 | .const v=>.c (vG R 9 v)
 | .func f=>.c (.fn (rnG R f) [] [])
 | .global _=>.c .undef
def zG(P:Program)(t:TypeId):List AV:=match (P.info? t).bind (·.zero)with|some z=>z.cells.toList.map (vG [] 9)|none=>[]
def qKl:Operand->Bool
 | .const (.pointer none) | .const (.slice none _ _) | .const .nilFunc | .const .nilIface | .const (.map none)=>true
 | _=>false
def kdG(P:Program)(t:TypeId):Option IntKind×TypeId:=match qhH P t with
 | some (k,e)=>(match P.underlying k with|some (.int q)=>some q|_=>none,e)
 | none=>(none,0)
def qBH(P:Program)(t:TypeId)(f:Nat):Field:=match P.underlying t with|some (.struct fs)=>fs.getD f default|_=>default
def neG:BinOp->Bool
 | .neq=>true
 | _=>false
def eqG:BinOp->Bool
 | .eql | .neq=>true
 | _=>false
def nkG(P:Program)(t:TypeId):NK:=match P.underlying t with|some (.pointer _)=>NK.ptr|some (.slice _)=>.slice|some (.func ..)=>.func|some (.map ..)=>.map|_=>.iface
def qLt(P:Program)(op:BinOp)(t:TypeId)(na nb:Bool)(a b:O):IOp :=
 if eqG op&&nb then .eqN (neG op) (nkG P t) a else if eqG op&&na then .eqN (neG op) (nkG P t) b else match P.underlying t with
  | some .bool=>.eqB (neG op) a b
  | _=>.bin op a b
def cvG(P:Program)(a b:TypeId)(x:O):IOp:=match P.underlying a,P.underlying b with
 | some (.int _),some (.int k)=>.cvInt k x
 | some (.int _),some .string=>.cvR x
 | some .string,some (.slice _)=>.s2b x
 | some (.slice _),some .string=>.b2s x
 | _,_=>.no
def slG(P:Program)(t:TypeId)(x:O)(l h m:Option O):IOp:=match P.underlying t with
 | some .string=>.slcStr x l h
 | some (.slice e)=>.slcS (P.cellsOf e) x l h m
 | some (.array n e)=>.slcA n (P.cellsOf e) x l h m
 | _=>.no
def qLO(P:Program)(t:TypeId)(a:O):IOp:=match P.underlying t with
 | some (.array n _)=>.mov (.c (.i .i64 n))
 | some .string=>.len true a
 | some (.pointer r)=>.mov (.c (.i .i64 ((qgW P r).getD default).1))
 | _=>.len false a
def opG(P:Program)(R:List Nat)(o:Op):IOp :=
 let O:=oG R
 let s:=P.cellsOf
 let el:=λt=>(zS P t).getD 0
 match o with
 | .move x | .assign x=>.mov (O x)
 | .pick c a b=>.pick (O c) (O a) (O b)
 | .alloc t=>.alloc (zG P t)
 | .box _ x=>.box (O x)
 | .build t ps=>.build (zG P t) (ps.toList.map λq=>match P.underlying t with
   | some (.struct fs)=>((fs.getD q.1 default).offset,s (fs.getD q.1 default).type,O q.2)
   | some (.array _ e)=>(q.1*s e,s e,O q.2)
   | _=>(0,0,O q.2))
 | .buildSlice t n ps=>.buildS n (zG P (el t)) (ps.toList.map λq=>(q.1*s (el t),s (el t),O q.2))
 | .load t a=>if wi P t then .loadN (s t) (O a)else .load1 (O a)
 | .store t a v=>.store (s t) (O a) (O v)
 | .nilCheck x=>.nilChk (O x)
 | .binOp op t a b _=>qLt P op t (qKl a) (qKl b) (O a) (O b)
 | .unOp op _ x=>.un op (O x)
 | .convert a b x=>cvG P a b (O x)
 | .makeFunc (.func f) a c=>.mkF (rnG R f) (a.toList.map O) (c.toList.map O)
 | .makeSlice t l c=>.mkS (s (el t)) (P.bytesOf (el t)) (zG P (el t)) (O l) (O c)
 | .slice t x l h m=>slG P t (O x) (l.map O) (h.map O) (m.map O)
 | .fieldAddr t x f=>.fAddr (qBH P t f).offset (O x)
 | .field t x f=>.fld (qBH P t f).offset (if wi P (qBH P t f).type then some (s (qBH P t f).type)else none) (O x)
 | .indexAddr t x i=>match P.underlying t with
  | some (.array n e)=>.iAddrA n (s e) (O x) (O i)
  | _=>.iAddrS (s (el t)) (O x) (O i)
 | .index t x i=>match P.underlying t with
  | some (.array n e)=>.idxA n (s e) (wi P e) (O x) (O i)
  | _=>.idxS (O x) (O i)
 | .range t x=>(match P.underlying t with|some .string=>.rangeS (O x)|_=>.rngE (O x))
 | .next x true=>.nextS (O x)
 | .next x false=>.nxtE (O x)
 | .makeMap _ _=>.mkM
 | .lookup t x i ok=>.lookM (kdG P t).1 ok (match (P.info? (kdG P t).2).bind (·.zero)with|some z=>vG [] 9 z|none=>.undef) (O x) (O i)
 | .mapUpdate t m i v | .insert t m i v=>.updM (kdG P t).1 (O m) (O i) (O v)
 | .extract t i=>.ext (O t) i
 | .call ⟨.builtin b,args,ts⟩ =>
  let a:=O (args.getD 0 default)
  let c:=O (args.getD 1 default)
  let t:=ts.getD 0 0
  let e:=el t
  match b with
  | .len=>qLO P t a
  | .append=>if qkV P (ts.getD 1 0)then .appZ (s e) (P.bytesOf e) (zG P e) a c else .app (s e) (P.bytesOf e) true a c
  | .cap=>.cap a
  | .copy=>.copy (s e) a c
  | .max=>.max a c
  | .min=>.min a c
  | .clear=>.clear (zG P e) a
  | _=>.no
 | _=>.no
def qL4(P:Program):Op->Bool
 | .move _ | .assign _ | .pick .. | .unOp .. | .fieldAddr .. | .extract .. | .indexAddr .. | .nilCheck _ | .field ..=>true
 | .binOp _ t _ _ _=>qEo P t||qka P t
 | .convert a b _=>qkV P a&&qkV P b
 | _=>false
def ldG(o:Oper):Option Nat:=match o.op,o.dst with | .load _ (.tmp p),some _=>some p|_,_=>none
def qLA(P:Program)(ops:List Oper)(ms:List Nat)(k:Nat)(o:Oper)(r:IOp):IOp :=
 let bf:=λj k=>(ms.getD k 0).testBit j
 let ix:=ops.zipIdx
 match o.op,r with
 | .store ..,.store n a v =>
  let ps:=ix.filterMap λq=>if q.2<k && !bf q.2 k then ldG q.1 else none
  if ps.isEmpty && !(ix.any λq=>decide (q.2<k) && !bf q.2 k&&match q.1.op with | .alloc .. | .buildSlice ..=>true|_=>false)then r else .storeD n a v ps
 | .call _,.app n b _ s x =>
  let odd:=ix.filter λq=>q.2 != k && !qL4 P q.1.op&&(if q.2<k then !bf q.2 k else !bf k q.2)
  let pl:=odd.map λq=>if q.2<k then ldG q.1 else none
  if odd.isEmpty then r else if pl.all (·.isSome)then .appD n b s x (pl.filterMap id)else .no
 | _,_=>r
structure MkG where
 w:List Nat
 v:Bool
 d:List Nat
def qL7(P:Program)(R:List Nat)(M:MkG)(ops:List Oper)(ms:Option (List Nat))(k:Nat)(o:Oper):ROp :=
 ⟨o.dst,match o.op with
  | .call ⟨.value (.func f),args,_⟩=>if M.w.contains f then .callW (rnG R f) (args.toList.map (oG R))else .callF (rnG R f) (args.toList.map (oG R))
  | .call ⟨.value x,args,_⟩=>if M.v then .callVW (oG R x) (args.toList.map (oG R))else .callV (oG R x) (args.toList.map (oG R))
  | p=>.op (match (match ms with|some ms=>qLA P ops ms k o (opG P R p)|none=>opG P R p)with
   | .store n (.t a) v=>if M.d.contains a then .storeD n (.t a) v []else .store n (.t a) v
   | r=>r),
  match o.guard with
   | none=>none
   | some (j,b)=>match ops[j]? with|some q=>(q.dst).map λd=>(d,b)|none=>none⟩
def stG(b:Nat)(cuts:List (Nat×ICode)):List (Nat×ICode):=cuts.filterMap λq=>if q.1 % 2=b then some (q.1 / 2,q.2)else none
def cG(P:Program)(R:List Nat)(M:MkG):Code->List (Nat×ICode)->ICode
 | c,cuts=>match cuts.find? λq=>q.1==1 with
  | some q=>.cut q.2
  | none=>match c with
   | .skip=>.skip
   | .region _ ops d=>.reg d (ops.toList.zipIdx.map λq=>qL7 P R M ops.toList (if d then some (qfA ops.toList [])else none) q.2 q.1)
   | .seq a b=>.seq (cG P R M a (stG 0 cuts)) (cG P R M b (stG 1 cuts))
   | .cond x a b=>.cond (oG R x) (cG P R M a (stG 0 cuts)) (cG P R M b (stG 1 cuts))
   | .block i b=>.blk i (cG P R M b (stG 0 cuts))
   | .loop b=>.loop (cG P R M b (stG 0 cuts))
   | .exit i=>.exit i
   | .ret=>.ret
   | .rangeFunc f ps a b=>.rangeF 0 (oG R f) ps.toList (cG P R M a (stG 0 cuts)) (cG P R M b (stG 1 cuts))
   | _=>.no
def atG:Nat->Nat->Code->Code
 | 0,_,c=>c
 | n+1,m,c=>if m=1 then c else match c with
  | .seq a b | .cond _ a b | .rangeFunc _ _ a b=>atG n (m / 2) (if m % 2=0 then a else b)
  | .block _ b | .loop b=>atG n (m / 2) b
  | c=>c
def qwI(P:Program)(f:Nat):Code:=match P.funcs[f]? with|some g=>g.body.getD .skip|none=>.skip
def irG(P:Program)(f:Nat)(R:List Nat)(M:MkG)(cuts:List (Nat×ICode)):IFn :=
 ⟨match P.funcs[f]? with
  | some g=>g.results.toList.map fun | .tmp t=>.tmp t | .cell a t=>.cell a (P.cellsOf t) (wi P t)
  | none=>[],cG P R M (qwI P f) cuts⟩
def irJ(f:Nat)(R:List Nat)(ps:List Nat:=[])(cs:List ICode:=[])(M:MkG:=⟨[],false,[]⟩){v:(Nat->ICode)->IFn}(_:∀c:Nat->ICode,irG Go.Proofs.Tryz.prog f R M (ps.zipIdx.map λq=>(q.1,c q.2))=v c:=by intro c;cbv):IFn:=v λn=>cs.getD n .skip
def icJ(f:Nat)(R:List Nat)(at':Nat)(ps:List Nat:=[])(cs:List ICode:=[])(M:MkG:=⟨[],false,[]⟩){v:(Nat->ICode)->ICode}(_:∀c:Nat->ICode,cG Go.Proofs.Tryz.prog R M (atG 99 at' (qwI Go.Proofs.Tryz.prog f)) (ps.zipIdx.map λq=>(q.1,c q.2))=v c:=by intro c;cbv):ICode:=v λn=>cs.getD n .skip
omit [Cur] in
def qKF{f:Nat}{R ps:List Nat}{cs:List ICode}{M:MkG}{v:(Nat->ICode)->IFn}{h:∀c:Nat->ICode,irG Go.Proofs.Tryz.prog f R M (ps.zipIdx.map λq=>(q.1,c q.2))=v c}:irJ f R ps cs M h=v λn=>cs.getD n .skip:=rfl
omit [Cur] in
def qKE{f:Nat}{R:List Nat}{p:Nat}{ps:List Nat}{cs:List ICode}{M:MkG}{v:(Nat->ICode)->ICode}{h:∀c:Nat->ICode,cG Go.Proofs.Tryz.prog R M (atG 99 p (qwI Go.Proofs.Tryz.prog f)) (ps.zipIdx.map λq=>(q.1,c q.2))=v c}:icJ f R p ps cs M h=v λn=>cs.getD n .skip:=rfl
end
def vI:=zzA (zzA @sq1 (zzA @sq2 @sq3)) (zzA @qKF (zzA @qKE (zzA @List.getD_cons_zero.{0} (zzA @List.getD_cons_succ.{0} (zzA (zzA @qaS.eq_1 (zzA @qaS.eq_2 (zzA @H0.eq_1 (zzA @mkT.eq_1 (zzA @mkT.eq_2 (zzA @mkH.eq_1 (zzA @trL.eq_1 @trL.eq_2))))))) (zzA @List.length_cons.{0} (zzA @List.length_nil.{0} (zzA Nat.zero_add (zzA @q_q (zzA @q_m (zzA @q_g (zzA @q_l (zzA @q_u (zzA @q_r @q_k))))))))))))))
end
section
variable [Cur]
variable {P:Program}
theorem Own.pure{f:Nat}{vs:List AV}{v v':AV}{bs:List Blk}(hcl:qu vs=true)(ho:Own P f vs v bs)(hf:Frz (qap H0 (bs.map (shb 0))) (shv 0 v) v'):qa P f vs v' :=
 qa.of_SC hcl (ho H0 _ hf)
end
section
variable [Cur]
variable {P:Program}{f:Nat}
def qon(P:Program)(f:Nat)(e:Array Value->Sem Value):Prop:=∀args w,(callFunc f args).run P w=((e args).run P w).andThen λv w'=>.ok (.value v) w'
omit [Cur] in
def qon.of{fn:Func}{e:Array Value->Sem Value}(hf:P.funcs[f]?=some fn)(hname:(fn.name == "runtime.NumGoroutine")=false)(hb:fn.body.isNone=true)(hn:Extern.findNext fn=none)(he:Extern.find fn=some e):qon P f e :=
 λargs w=>run_callFunc_extern hf hname hb hn he args w
theorem qon.pure{e:Array Value->Sem Value}{vs:List AV}{v:AV}(h:qon P f e)(hr:∀Z (args:Array Value) w,VRs σ0 Z vs args.toList->∃v',(e args).run P w = .ok v' w/\VR σ0 Z v v'):qa P f vs v:=by
 intro hp k hk;refine⟨trivial,λZ B w args r ha=>?_⟩
 obtain⟨v',h1,h2⟩:=hr Z args w ha;exact .inr ⟨v',w,by rw[h,h1];rfl,v,v',hp,Z,rfl,hk,h2,r,Kept.refl _ _ _ _⟩
def qsh(c:UInt8):List UInt8->Nat->Int
 | [],_=>-1
 | x::xs,j=>if x=c then(j:Int)else qsh c xs (j+1)
omit [Cur] in
def qnO(a:List UInt8)(c:UInt8):firstIdx ⟨a.toArray⟩ c=qsh c a 0:=by
 have key:∀(l:List UInt8) (j:Nat),a.drop j=l->j<=a.length->(match (List.range' j l.length).find? (λi=>(⟨a.toArray⟩:ByteArray)[i]! == c)with|some i=>(i:Int)|none=>-1)=qsh c l j:=by
  intro l
  induction l with
  | nil=>intro j _ _;simp[qsh]
  | cons x xs ih =>
   intro j hd hj
   have hlt:j<a.length:=by
    have:=congrArg List.length hd;simp at this;exact Ac
   have hx:a[j]=x:=by
    have:=zzf hlt;rw[hd]at this;exact If
   have hget:(⟨a.toArray⟩:ByteArray)[j]! = x:=by
    have:j<(⟨a.toArray⟩:ByteArray).size:=by simpa[ByteArray.size]using hlt
    rw[getElem!_pos (⟨a.toArray⟩:ByteArray) j this];show a.toArray[j]=x;exact C3
   rw[zze,List.range'_succ,List.find?_cons,hget]
   by_cases he:x=c
   .subst he;simp[qsh]
   .have:(x==c)=false:=by simpa using he
    rw[this,qsh,if_neg he];exact ih (j+1) Fi Ac
 have:=key a 0 rfl (zzu _);rw[<- this];unfold firstIdx;rw[List.range_eq_range'];have:(⟨a.toArray⟩:ByteArray).size=a.length:=Eh
 rw[this];split<;>rename_i h1<;>split<;>rename_i h2<;>simp_all
def qAr(h:qon P f Extern.BytealgIndexByte.indexByte)(a:List UInt8)(c:UInt8):qa P f [.s a,.i .u8 (c.toNat:Int)] (.i .i64 (qsh c a 0)):=by
 refine h.pure ?_;intro Z args w ha;generalize hl:args.toList=l at ha;cases ha with
 | cons _ _ x xs hx hxs =>
  cases hxs with
  | cons _ _ y ys hy hys =>
   cases hys;cases hx;cases hy;obtain rfl:args = #[.string ⟨a.toArray⟩,.int .u8 (c.toNat:Int)]:=by cases args;exact Ad
   refine⟨_,run_indexByte_string _ _ _,?_⟩;have:(c.toNat:Int).toNat.toUInt8=c:=by simp
   rw[this,qnO];exact .i _ _
def qnM(a b:List UInt8):Int:=if a=b then 0 else if ltS a b=true then -1 else 1
omit [Cur] in
def qCd{y:List UInt8}:ltS [] y = !y.isEmpty:=by cases y<;>rfl
omit [Cur] in
def qm4{c:UInt8}{x:List UInt8}:ltS (c::x) []=false:=rfl
omit [Cur] in
def qhG{c d:UInt8}{x y:List UInt8}:ltS (c::x) (d::y)=if c<d then true else if c=d then ltS x y else false:=by
 rw[qkY,qkY];simp only[Op.bytesLess]
 by_cases h1:c<d
 .simp[h1]
 .by_cases h2:c=d
  .simp[h2]
  .simp[h1,h2]
omit [Cur] in
def qBn(a b:List UInt8):Extern.BytealgCompare.cmp ⟨a.toArray⟩ ⟨b.toArray⟩=qnM a b:=by
 have hs:∀l:List UInt8,(⟨l.toArray⟩:ByteArray).size=l.length:=λl=>Eh
 have hg:∀(l:List UInt8) (j:Nat) (hj:j<l.length),(⟨l.toArray⟩:ByteArray)[j]! = l[j]:=by
  intro l j hj;have:j<(⟨l.toArray⟩:ByteArray).size:=by rw[hs];exact hj
  rw[getElem!_pos (⟨l.toArray⟩:ByteArray) j this];show l.toArray[j]=l[j];simp
 have key:∀(n:Nat) (x y:List UInt8) (j:Nat),a.drop j=x->b.drop j=y->j<=a.length->j<=b.length->min x.length y.length=n->
   (match (List.range' j n).find? (λi=>(⟨a.toArray⟩:ByteArray)[i]! != (⟨b.toArray⟩:ByteArray)[i]!)with
    | some i=>if(⟨a.toArray⟩:ByteArray)[i]! < (⟨b.toArray⟩:ByteArray)[i]! then(-1:Int)else 1
    | none=>if a.length<b.length then -1 else if a.length > b.length then 1 else 0)=qnM x y:=by
  intro n
  induction n with
  | zero =>
   intro x y j hx hy ha hb hm;have la:x.length=a.length-j:=by rw[<- hx];simp
   have lb:y.length=b.length-j:=by rw[<- hy];simp
   cases x with
   | nil =>
    cases y with
    | nil =>
     simp at la lb;have:a.length=b.length:=Ac
     simp[qnM,this]
    | cons d ds =>
     simp at la lb;have:a.length<b.length:=Ac
     simp[qnM,this,qCd]
   | cons c cs =>
    cases y with
    | nil =>
     simp at la lb;have h1:¬a.length<b.length:=Ac
     have h2:b.length<a.length:=Ac
     simp[qnM,h1,h2,qm4]
    | cons d ds=>simp at hm
  | succ n ih =>
   intro x y j hx hy ha hb hm;cases x with
   | nil=>simp at hm
   | cons c cs =>
    cases y with
    | nil=>simp at hm
    | cons d ds =>
     have la:j<a.length:=by have:=congrArg List.length hx;simp at this;exact Ac
     have lb:j<b.length:=by have:=congrArg List.length hy;simp at this;exact Ac
     have ec:a[j]=c:=by have:=zzf la;rw[hx]at this;exact If
     have ed:b[j]=d:=by have:=zzf lb;rw[hy]at this;exact If
     rw[List.range'_succ,List.find?_cons,hg a j la,hg b j lb,ec,ed]
     by_cases he:c=d
     .subst he;simp only[bne_self_eq_false];refine(ih cs ds (j+1) (by rw[<- List.drop_drop,hx];rfl) (by rw[<- List.drop_drop,hy];rfl) Ac Ac (by simp at hm;exact Ac)).trans ?_;simp[qnM,qhG]
     .have h1:(c != d)=true:=by simpa using he
      simp only[h1];rw[hg a j la,hg b j lb,ec,ed]
      by_cases hlt:c<d
      .simp[qnM,qhG,hlt,he]
      .simp[qnM,qhG,hlt,he]
 have:=key (min a.length b.length) a b 0 rfl rfl (zzu _) (zzu _) rfl;rw[<- this];unfold Extern.BytealgCompare.cmp;rw[List.range_eq_range',hs,hs];rfl
def qAn(h:qon P f Extern.BytealgCompare.compare)(a b:List UInt8):qa P f [.s a,.s b] (.i .i64 (qnM a b)):=by
 refine h.pure ?_;intro Z args w ha;generalize hl:args.toList=l at ha;cases ha with
 | cons _ _ x xs hx hxs =>
  cases hxs with
  | cons _ _ y ys hy hys =>
   cases hys;cases hx;cases hy;obtain rfl:args = #[.string ⟨a.toArray⟩,.string ⟨b.toArray⟩]:=by cases args;exact Ad
   refine⟨.int .i64 (qnM a b),?_,.i _ _⟩
   change Sem.run P (do
    let x <- Extern.Bytes.bytesOf (.string ⟨a.toArray⟩)
    let y <- Extern.Bytes.bytesOf (.string ⟨b.toArray⟩)
    pure (goInt (Extern.BytealgCompare.cmp x y))) w=_
   simp[Extern.Bytes.bytesOf,qBn,goInt]
end
section
variable [Cur]
variable {P:Program}{h:Hp}
def trP:List (Nat×Blk)->Tr Blk
 | []=>.leaf
 | p::l=>(trP l).set p.1 p.2
omit [Cur] in
def qkF:∀{l:List (Nat×Blk)}{b:Nat}{x:Blk},(trP l).get b=some x->(b,x) ∈ l
 | [],b,x,h=>by simp[trP]at h
 | p::l,b,x,h=>by
  simp only[trP,zz4]at h;split at h
  .exact Ah
  .exact List.mem_cons_of_mem _ (qkF h)
def qd6(h:Hp):List (Nat×Blk)->Hp
 | []=>h
 | p::l=>qd6 (h.put p.1 .dead) l
omit [Cur] in
theorem qkc:∀{l:List (Nat×Blk)}{h:Hp},(qd6 h l).sz=h.sz
 | [],_=>rfl
 | _::l,h=>(qkc (l:=l)).trans rfl
omit [Cur] in
theorem qkb:∀{l:List (Nat×Blk)}{h:Hp},(qd6 h l).fl=h.fl
 | [],_=>rfl
 | _::l,h=>(qkb (l:=l)).trans rfl
omit [Cur] in
def qhE:∀{l:List (Nat×Blk)}{h:Hp}{b:Nat},(qd6 h l).tr.get b=if b ∈ l.map Prod.fst then some .dead else h.tr.get b
 | [],_,_=>by simp[qd6]
 | p::l,h,b=>by
  simp only[qd6];rw[qhE]
  by_cases h1:b ∈ l.map Prod.fst
  .rw[if_pos h1,if_pos Ad]
  .rw[if_neg h1];show(h.tr.set p.1 .dead).get b=_;rw[zz4]
   exact Ad
omit [Cur] in
def zQ:qd6 h []=h:=rfl
omit [Cur] in
def zr{b:Nat}{x:Blk}{l:List (Nat×Blk)}:qd6 h ((b,x)::l)=qd6 (h.put b .dead) l:=rfl
theorem Rel.sub{Z:Ren}{B:Nat->Prop}{h h':Hp}{w:World}(r:Rel σ0 Z B h w)(hs:h'.sz=h.sz)(hf:h'.fl=h.fl)(hg:∀b x,h'.tr.get b=some x->x≠.dead->h.tr.get b=some x):Rel σ0 Z B h' w :=
 ⟨λb L hb=>by rw[hs];exact r.dom b L hb,by grind[Rel.cells],by grind[Rel.maps],
  Dc,C0,
  λb L e wf cs hb hx b' L' e' wf' af' cs' hb' hx'=>r.app b L e wf cs hb Ad b' L' e' wf' af' cs' hb' Ad,λb L hb hf'=>r.flr b L hb (by rw[<- hf];exact Ac),r.base,
  Dz,by rw[hs];exact r.dn⟩
def qa.give{f:Nat}{vs vs':List AV}{v:AV}{k:AV->Hp->Prop}(DB:List (Nat×Blk))(hg:∀p ∈ DB,h.tr.get p.1=some p.2/\h.fl<=p.1)(hp:qa P f vs' v)(hv:clo v=true)(hf:Frzs ⟨h.sz,h.fl,trP DB⟩ vs vs')(hk:k v (qd6 h DB)):SC P f vs h k:=by
 refine⟨trivial,λZ B w args r ha=>?_⟩
 have hp0:=hp H0 (λv' h'=>v'=v/\h'=H0) ⟨rfl,rfl⟩
 have r0:Rel σ0 Z B ⟨h.sz,h.fl,trP DB⟩ w:=r.sub rfl rfl (λb x hx _=>(hg _ (qkF hx)).1)
 have hcr:=hf.ok r0 ha
 have fnew:∀kk a,wA Z ⟨h.sz,h.fl,trP DB⟩ w kk=some a->Z.frz kk=some a\/((∃ty fz,w.heap[kk]?=some (.cells a ty fz))/\∃b L e af cs,b ∈ DB.map Prod.fst/\Z b=some L/\h.tr.get b=some (.cells e true af cs)/\L.blk=kk/\h.fl<=b):=by
  intro kk a hkk;rcases qdT hkk with h1|⟨h1,b,L,e,af,cs,h2,h3,h4⟩
  .exact Ah
  .have hm:=qkF h3
   grind[List.mem_map_of_mem]
 -- the rows given are frozen,their blocks dead
 have r1:Rel σ0 ⟨Z.loc,wA Z ⟨h.sz,h.fl,trP DB⟩ w,Z.n⟩ B (qd6 h DB) w:=by
  have le:Z.le ⟨Z.loc,wA Z ⟨h.sz,h.fl,trP DB⟩ w,Z.n⟩:=⟨λ_ _ h=>h,by grind[wN],zzL _⟩
  have jR:∀b x,(qd6 h DB).tr.get b=some x->x≠.dead->b ∉ DB.map Prod.fst/\h.tr.get b=some x:=by
   intro b x hx hd;rw[qhE]at hx;split at hx
   .cases hx;exact absurd rfl hd
   .exact Ah
  have rs:Rel σ0 Z B (qd6 h DB) w:=by grind[Rel.sub,qkc,qkb]
  refine⟨rs.dom,λb L e wf af cs hb hx=>?_,λb L es hb hx=>?_,rs.excl,rs.exclm,rs.app,rs.flr,rs.base,λkk arr hkk=>?_,rs.dn⟩
  .obtain⟨q1,c,ty,fz,q2,q3,q4,q5,q6⟩:=rs.cells b L e wf af cs hb hx;exact Dj
  .obtain⟨q1,o,q2,q3⟩:=rs.maps b L es hb hx;exact D4
  grind[Rel.frz,Rel.excl]
 refine qcb.mono (hp0.2 ⟨λ_=>none,wA Z ⟨h.sz,h.fl,trP DB⟩ w,0⟩ (low w.heap.size) w args
  ⟨Ah,Ah,Ah,Ah,Ah,Ah,Ah,(λ_ h=>h),
   Dz,Ah⟩ Fo) ?_
 rintro e w' ⟨v0,v',h',Z',rfl,⟨rfl,rfl⟩,g2,g3,g4⟩;have f1:∀k a,wA Z ⟨h.sz,h.fl,trP DB⟩ w k=some a->Z'.frz k=some a:=g4.frz;have f2:∀k a,Z'.frz k=some a->wA Z ⟨h.sz,h.fl,trP DB⟩ w k=some a\/w.heap.size<=k:=λk a hk=>(g4.fnew k a hk).imp id Nat.not_lt.1
 have f3:∀k a,Z'.frz k=some a->∃ty fz,w'.heap[k]?=some (.cells a ty fz):=λk a hk=>(g3.frz k a hk).1
 have r2:=r1.frz' g4.pres g4.wle f1 f2 f3;refine⟨v0,v',qd6 h DB,⟨Z.loc,Z'.frz,Z.n⟩,rfl,hk,CR.vr (Z:=⟨Z.loc,Z'.frz,Z.n⟩) (g2.cr hv),r2,?_⟩;refine⟨λ_ _=>rfl,by rw[qkc];exact Ac,qkb,λb hb _=>?_,Ce,g4.wle,g4.io,by grind[wN],λk a hk=>?_,zzL _⟩
 .rw[qhE,if_neg]
  grind
 .rcases f2 k a hk with h1|h1
  .grind[Rel.flr]
  .exact .inr (wJ r.base h1)
end
section
variable [Cur]
variable {P:Program}{env:Tr IFn}{ho:qgM}
inductive OkT (P:Program):Nat->Nat->Tr IFn->Prop where
 | leaf (a b:Nat):OkT P a b .leaf
 | no (a b:Nat) {l r:Tr IFn}:OkT P (2*a) (a+b) l->OkT P (2*a) (2*a+b) r->OkT P a b (.node none l r)
 | fn (a b:Nat) {i:IFn}{l r:Tr IFn}:qdN P b i=true->OkT P (2*a) (a+b) l->OkT P (2*a) (2*a+b) r->OkT P a b (.node (some i) l r)
omit [Cur] in
theorem OkT.get{a b:Nat}{t:Tr IFn}(h:OkT P a b t):∀n i,t.get n=some i->qdN P (a*n+b) i=true:=by
 induction h with
 | leaf=>intro n i h;simp at h
 | no a b hl hr ihl ihr =>
  intro n i h;cases n with
  | zero=>rw[Tr.get_node]at h;cases h
  | succ m =>
   rcases Nat.mod_two_eq_zero_or_one m with h0|h0
   .obtain⟨j,rfl⟩:∃j,m=2*j:=⟨m / 2,Ac⟩
    rw[Tr.get_node]at h;simp only[h0,if_true,Nat.mul_div_cancel_left j (Nat.zero_lt_two)]at h;have:=ihl j i h;rwa [show 2*a*j+(a+b)=a*(2*j+1)+b from by refine Et ?_;exact Ac]at this
   .obtain⟨j,rfl⟩:∃j,m=2*j+1:=⟨m / 2,Ac⟩
    rw[Tr.get_node]at h;simp only[h0,Nat.one_ne_zero,if_false,show(2*j+1) / 2=j from Ac]at h
    have:=ihr j i h;rwa [show 2*a*j+(2*a+b)=a*(2*j+1+1)+b from by refine Dg ?_;exact Ac]at this
 | fn a b hc hl hr ihl ihr =>
  intro n i h;cases n with
  | zero=>rw[Tr.get_node]at h;cases h;simpa using hc
  | succ m =>
   rcases Nat.mod_two_eq_zero_or_one m with h0|h0
   .obtain⟨j,rfl⟩:∃j,m=2*j:=⟨m / 2,Ac⟩
    rw[Tr.get_node]at h;simp only[h0,if_true,Nat.mul_div_cancel_left j (Nat.zero_lt_two)]at h;have:=ihl j i h;rwa [show 2*a*j+(a+b)=a*(2*j+1)+b from by refine Et ?_;exact Ac]at this
   .obtain⟨j,rfl⟩:∃j,m=2*j+1:=⟨m / 2,Ac⟩
    rw[Tr.get_node]at h;simp only[h0,Nat.one_ne_zero,if_false,show(2*j+1) / 2=j from Ac]at h
    have:=ihr j i h;rwa [show 2*a*j+(2*a+b)=a*(2*j+1+1)+b from by refine Dg ?_;exact Ac]at this
omit [Cur] in
def Kept.same{Z Z':Ren}{h h':Hp}{w w':World}(k:Kept Z (low w.heap.size) h w Z' h' w')(may:MemPlace->Prop):w.keptBut w' may:=by
 refine⟨k.io.1,k.io.2,λi hi=>?_⟩
 have e:=k.pres i hi;rw[e];cases w.heap[i]? with
 | none=>rfl
 | some o=>cases o<;>simp
def qx4(w:World):Nat->Option (Array Value):=λk=>match w.heap[k]? with|some (.cells arr _ _)=>some arr|_=>none
omit [Cur] in
def qmN{w:World}{k:Nat}{arr:Array Value}:qx4 w k=some arr↔∃ty fz,w.heap[k]?=some (.cells arr ty fz):=by
 show(match w.heap[k]? with|some (.cells arr _ _)=>some arr|_=>none)=some arr↔_
 cases w.heap[k]? with
 | none=>simp
 | some o=>cases o<;>simp
def ice(w:World) [t:TabOk w]:Ren:=⟨λ_=>none,⟨qx4 w,λk a h=>qmN.2 (t.ok k a h)⟩,0⟩
omit [Cur] in
def qBY{w:World} [TabOk w]{k:Nat}{arr:Array Value}:(ice w).frz k=some arr↔∃ty fz,w.heap[k]?=some (.cells arr ty fz):=qmN
def Rel.ice(w:World) [TabOk w]:Rel σ0 (ice w) (low w.heap.size) H0 w :=
 ⟨(λ_ _ hb=>by cases hb),(λ_ _ _ _ _ _ hb=>by cases hb),(λ_ _ _ hb=>by cases hb),(λ_ _ _ _ _ hb=>by cases hb),(λ_ _ _ hb=>by cases hb),(λ_ _ _ _ _ hb=>by cases hb),(λ_ _ hb=>by cases hb),(λ_ h=>h),
  (λk arr hk=>⟨qBY.1 hk,λ_ _ _ hb=>by cases hb⟩),⟨zzL _,λ_ _ hb=>by cases hb⟩⟩
def qa.law{f:Nat}{vs:List AV}{args:Array Value}(hp:qa P f vs (.b true))(hc:qiv P f)(w:World) [TabOk w](ha:VRs σ0 (ice w) vs args.toList):Calls P f args w λe w'=>e = .returned (.bool true)/\∀may,w.keptBut w' may:=by
 have h:=(hp H0 (λv _=>v = .b true) rfl).2 (ice w) (low w.heap.size) w args (Rel.ice w) ha
 rcases h with⟨_,h⟩|⟨v,w',h,_⟩
 .refine h.mono λe w' hh=>?_
  obtain⟨v,v',h',Z',rfl,rfl,hv,_,hk⟩:=hh;cases hv;exact⟨rfl,λmay=>hk.same may⟩
 .exact Ia
omit [Cur] in
def qcK{f:Nat}{i:IFn}(hc:qdN P f i=true):qiv P f:=by
 unfold qdN at hc;split at hc<;>try (cases hc;done)
 rename_i fn hfn;simp only[zzB,bne_iff_ne]at hc;obtain⟨⟨hname,hbody⟩,hres⟩:=hc;split at hbody<;>try (cases hbody;done)
 rename_i c hcb;exact⟨fn,hfn,hname,Hq⟩
end
section
variable [Cur]
section
variable {H:Type}{enc:TypeId×Value->H}{P:Program}{w:World}{α β:Type}{t e:TypeId}
omit [Cur] in
def CRs.app{φ:Nat->Option (Array Value)}:∀{zy bs:List AV}{us vs:List Value},CRs σ0 φ zy us->CRs σ0 φ bs vs->CRs σ0 φ (zy++bs) (us++vs)
 | _,_,_,_,.nil,h=>h
 | _,_,_,_,.cons v l v' l' h hs,h2=>.cons _ _ _ _ h (CRs.app hs h2)
def qgm(enc:TypeId×Value->H)(P:Program)(w:World)(t:TypeId)(I:α->Prop)(E:α->List AV):Prop :=
 ∀(fuel:Nat) (cs:List Value) x,DataW.trod enc P w 0 (λ_=>true) true fuel t cs=some x->∃a,I a/\CRs σ0 (qx4 w) (E a) cs
omit [Cur] in
def qIL{k:IntKind}(ht:P.underlying t=some (.int k)):qgm enc P w t (λn:Int=>(Lit.int k n).wf=true) (λn=>[.i k n]):=by
 intro fuel cs x h;obtain⟨n,rfl,_,hw⟩:=DataW.trod_int ht h;exact⟨n,hw,.cons _ _ _ _ (.i _ _) .nil⟩
omit [Cur] in
def qHj(ht:P.underlying t=some .bool):qgm enc P w t (λ_:Bool=>True) (λb=>[.b b]):=by
 intro fuel cs x h;obtain⟨b,rfl,_⟩:=DataW.trod_bool ht h;exact⟨b,trivial,.cons _ _ _ _ (.b _) .nil⟩
omit [Cur] in
def qIM(ht:P.underlying t=some .string):qgm enc P w t (λs:List UInt8=>s.length<=maxLen) (λs=>[.s s]):=by
 intro fuel cs x h;obtain⟨s,rfl,_,hw⟩:=DataW.trod_string ht h;obtain⟨⟨l⟩⟩:=s;exact⟨l,hw,.cons _ _ _ _ (.s _) .nil⟩
omit [Cur] in
def qBf{a:Addr}{v:Value}(h:w.cell? a=some v):a.spot=none/\∃arr ty fz,w.heap[a.block]?=some (.cells arr ty fz)/\arr[a.off]?=some v:=by
 unfold World.cell? at h;split at h
 .rename_i c ty fz hc;split at h
  .cases h
  .rename_i hs;refine⟨by simpa using hs,c,ty,fz,hc,h⟩
 .cases h
omit [Cur] in
def qEm{I:α->Prop}{E:α->List AV}{m:Nat}(ht:P.underlying t=some (.slice e))(he:qgm enc P w e I E)(hE:∀a,(E a).length=m)(hc:P.cellsOf e=m)(hm:0<m) :
  qgm enc P w t (λl:List α=>l.length<=maxLen/\∀a ∈ l,I a) (λl=>[.fz l.length (l.flatMap E)]):=by
 intro fuel cs x h;rcases DataW.trod_slice ht h with⟨rfl,_⟩|⟨a,len,cap,elems,rest,n,_,rfl,_,_,hl,hmx,hlen,hel,hsp,_⟩
 .exact⟨[],⟨zzu _,λ_ h=>by cases h⟩,.cons _ _ _ _ (.fz0 none) .nil⟩
 obtain⟨hrl,hr⟩:=hsp rfl;rcases Nat.eq_zero_or_pos cap with h0|hpos
 .subst h0;obtain rfl:len=0:=Ac
  exact⟨[],⟨zzu _,λ_ h=>by cases h⟩,.cons _ _ _ _ (.fz0 (some a)) .nil⟩
 have first:∃v,w.cell? a=some v:=by
  have:∃cs',w.cells? 0 (a.add (0*P.cellsOf e)) (P.cellsOf e)=some cs':=by
   rcases Nat.eq_zero_or_pos len with h1|h1
   .have:=hr 0 Ac;have hlt:0<rest.length:=Ac
    rw[zzE hlt,Option.bind_eq_some_iff]at this;obtain⟨c,hc',_⟩:=this;subst h1;exact⟨c,hc'⟩
   .have:=hel 0 h1;have hlt:0<elems.length:=Ac
    rw[zzE hlt,Option.bind_eq_some_iff]at this;obtain⟨c,hc',_⟩:=this;exact⟨c,hc'⟩
  obtain⟨cs',h2⟩:=this;obtain⟨_,q1,q2⟩:=World.cells?_some h2;have:=q2 0 Ac;rw[zzE Ac]at this;simp only[Nat.zero_mul,Addr.add,if_true]at this;exact⟨_,this⟩
 obtain⟨v0,hv0⟩:=first
 obtain⟨hs,arr,ty,fz,hb,_⟩:=qBf hv0
 have key:∀k,k<=len->∃l:List α,l.length=k/\(∀b ∈ l,I b)/\CRs σ0 (qx4 w) (l.flatMap E) ((arr.toList.drop a.off).take (k*m)):=by
  intro k
  induction k with
  | zero=>intro _;exact⟨[],rfl,(λ_ h=>by cases h),by simpa using .nil⟩
  | succ k ih =>
   intro hk;obtain⟨l,h1,h2,h3⟩:=ih Ac;have hk':=hel k Ac;have hlt:k<elems.length:=Ac
   rw[zzE hlt,Option.bind_eq_some_iff]at hk';obtain⟨c,hcs,htr⟩:=hk';obtain⟨_,q1,q2⟩:=World.cells?_some hcs;obtain⟨b,hb1,hb2⟩:=he _ _ _ htr
   have e1:c=((arr.toList.drop a.off).drop (k*m)).take m:=by
    refine List.ext_getElem? λj=>?_
    by_cases hj:j<m
    .have:=q2 j Ac;rw[<- this]
     have e2:w.cell? ((a.add (k*P.cellsOf e)).add j)=arr[a.off+(k*m+j)]?:=by
      have ha:(a.add (k*P.cellsOf e)).add j=⟨a.block,a.off+(k*m+j),none⟩:=by
       unfold Addr.add;rw[hc];split
       .split
        .rename_i h4 h5;rw[h4,h5];cases a;exact Ad
        .rename_i h4 h5;rw[h4];simp[hs]
       .split
        .rename_i h4 h5;rw[h5];cases a;exact Ad
        .simp;exact Ac
      rw[ha];simp[World.cell?,hb]
     rw[e2,zzq hj,zzp,zzp];simp[Array.getElem?_toList]
    .rw[List.getElem?_eq_none Ac,List.getElem?_eq_none];simp;exact Ac
   refine⟨l++[b],by simp[h1],λx hx=>?_,?_⟩
   .rcases zzd.1 hx with hx|hx
    .exact h2 x hx
    .obtain rfl:=zz1.1 hx;exact hb1
   .rw[List.flatMap_append,Nat.succ_mul,List.take_add,<- e1];simpa using h3.app hb2
 obtain⟨l,h1,h2,h3⟩:=key len (zzL _);refine⟨l,⟨Ac,h2⟩,.cons _ _ _ _ ?_ .nil⟩
 have hfl:(l.flatMap E).length=len*m:=by
  rw[<- h1];clear h1 h2 h3
  induction l with
  | nil=>simp
  | cons x l ih=>simp[hE,ih,Nat.succ_mul,Nat.add_comm]
 obtain⟨blk,off,spot⟩:=a;cases hs;rw[h1];exact .fz len off cap _ blk arr hl (qmN.2 ⟨ty,fz,hb⟩) (by rw[hfl];exact h3)
def qo2(enc:TypeId×Value->H)(P:Program)(w:World)(fs:List Field)(o n:Nat)(I:α->Prop)(E:α->List AV):Prop :=
 (∀a,(E a).length=n)/\∀(fuel:Nat) (cs:List Value),(∀f ∈ fs,∃x,DataW.trod enc P w 0 (λ_=>true) true fuel f.type ((cs.drop f.offset).take (P.cellsOf f.type))=some x)->∃a,I a/\CRs σ0 (qx4 w) (E a) ((cs.drop o).take n)
omit [Cur] in
def qHi{o:Nat}:qo2 enc P w [] o 0 (λ_:Unit=>True) (λ_=>[]):=⟨λ_=>rfl,λ_ cs _=>⟨(),trivial,by simpa using .nil⟩⟩
omit [Cur] in
def qEl{f:Field}{fs:List Field}{o m n:Nat}{I:α->Prop}{E:α->List AV}{J:β->Prop}{F:β->List AV}(h:qgm enc P w f.type I E)(hE:∀a,(E a).length=m)(ho:f.offset=o)(hc:P.cellsOf f.type=m)
  (hr:qo2 enc P w fs (o+m) n J F):qo2 enc P w (f::fs) o (m+n) (λp:α×β=>I p.1/\J p.2) (λp=>E p.1++F p.2):=by
 refine⟨λp=>by simp[hE,hr.1],λfuel cs hf=>?_⟩
 obtain⟨x,hx⟩:=hf f (List.mem_cons_self ..);obtain⟨a,ha,h1⟩:=h _ _ _ hx;obtain⟨b,hb,h2⟩:=hr.2 fuel cs λg hg=>hf g (List.mem_cons_of_mem _ hg)
 refine⟨(a,b),⟨ha,hb⟩,?_⟩;rw[ho,hc]at h1;rw[List.take_add,List.drop_drop];exact h1.app h2
omit [Cur] in
def qCL{fs:Array Field}{n:Nat}{I:α->Prop}{E:α->List AV}(ht:P.underlying t=some (.struct fs))(hc:P.cellsOf t=n)(h:qo2 enc P w fs.toList 0 n I E):qgm enc P w t I E:=by
 intro fuel cs x hx;obtain⟨xs,m,rfl,_,hl,hxs,hf⟩:=DataW.trod_struct ht hx
 obtain⟨a,ha,h1⟩:=h.2 m cs λf hfm=>by
  obtain⟨i,hi⟩:=List.getElem?_of_mem hfm;have hi':fs[i]?=some f:=by simpa using hi
  have:=hf i f hi'
  have hlt:i<xs.length:=by
   rw[hxs];exact(Array.getElem?_eq_some_iff.1 hi').1
  rw[zzE hlt]at this;exact⟨_,this⟩
 refine⟨a,ha,?_⟩;rwa [List.drop_zero,zzt Ac]at h1
omit [Cur] in
def qgm.map{I:α->Prop}{E:α->List AV}{J:β->Prop}{F:β->List AV}(h:qgm enc P w t I E)(g:α->β)(hg:∀a,I a->J (g a)/\F (g a)=E a):qgm enc P w t J F:=by
 intro fuel cs x hx;obtain⟨a,ha,h1⟩:=h _ _ _ hx;exact⟨g a,(hg a ha).1,by rw[(hg a ha).2];exact h1⟩
omit [Cur] in
def qgm.agg [TabOk w]{I:α->Prop}{E:α->List AV}(h:qgm enc P w t I E){v:Value}{d:DataW H}{p:List MemPlace}(ha:∃cs,v = .agg cs)(hd:DataW.Trod enc P w 0 (λ_=>true) true t v d p):∃a,I a/\VR σ0 (ice w) (.agg (E a)) v:=by
 obtain⟨cs,rfl⟩:=ha;obtain⟨fuel,hd⟩:=hd;obtain⟨a,h1,h2⟩:=h _ _ _ hd;exact⟨a,h1,.agg _ _ h2.vr⟩
omit [Cur] in
def qpR{w':World}(hk:∀may,w.keptBut w' may){p:MemPlace}(hp:p.block<w.heap.size):w.sameAt w' p:=by
 have h:=(hk λ_=>False).2.2 p.block hp
 have h0:w.heap[p.block]?=some w.heap[p.block]:=Array.getElem?_eq_getElem hp;cases p with
 | cell b off =>
  show w'.cell? ⟨b,off,none⟩=w.cell? ⟨b,off,none⟩;simp only[MemPlace.block]at h h0 hp;unfold World.cell?;split at h
  .rename_i c1 t1 f1 c2 t2 f2 e1 e2;dsimp only;rw[e1,e2];simpa using h.2.2.2 off (λhh=>hh)
  .rename_i e1 e2;dsimp only;rw[e1,e2]
  .dsimp only;exact Hr
 | map b =>
  show w'.heap[b]?=w.heap[b]?;simp only[MemPlace.block]at h h0 hp;split at h
  .rename_i c1 t1 f1 c2 t2 f2 e1 e2
   have:c2=c1:=by
    apply Array.ext_getElem?;intro j;exact h.2.2.2 j (λhh=>hh)
   rw[e1,e2,h.1,h.2.1,this]
  .rename_i e1 e2;rcases h with hh|⟨h1,h2⟩
   .exact hh.elim
   .rw[e1,e2,h1,h2]
  .exact h
omit [Cur] in
def Trod.stay{w':World}{T:TypeId->Prop}(K:Kids P T)(hz:∀t e,T t->P.underlying t=some (.slice e)->0<P.cellsOf e){ts:List TypeId}{vs:List Value}{ds:List (DataW H)}{ps:List MemPlace}(hT:∀t ∈ ts,T t)
  (h:DataW.TrodAll enc P w 0 (λ_=>true) true ts vs ds ps) (hk:∀may,w.keptBut w' may):DataW.TrodAll enc P w' 0 (λb=>decide (b<w.heap.size)) true ts vs ds ps:=by
 have hlt:=DataW.TrodAll.lt h;have h1:DataW.TrodAll enc P w 0 (λb=>decide (b<w.heap.size)) true ts vs ds ps:=h.respare K hz hT λp hp=>decide_eq_true (hlt p hp)
 clear h
 induction ts generalizing vs ds ps with
 | nil =>
  cases vs<;>cases ds<;>first|exact h1|exact h1.elim
 | cons t ts ih =>
  cases vs with
  | nil=>exact h1.elim
  | cons v vs =>
   cases ds with
   | nil=>exact h1.elim
   | cons d ds =>
    obtain⟨p,q,⟨fuel,h2⟩,h3,e⟩:=h1;subst e;refine⟨p,q,⟨fuel,DataW.trod_carry _ _ _ _ h2 λx hx=>qpR hk (hlt x (List.mem_append_left _ hx))⟩,?_,rfl⟩
    exact ih (λt ht=>hT t (List.mem_cons_of_mem _ ht)) (λx hx=>hlt x (List.mem_append_right _ hx)) h3
end
omit [Cur] in
def qHA{k:IntKind}{l:List Int}:l.flatMap (λn=>[AV.i k n])=l.map (.i k):=by
 induction l with
 | nil=>rfl
 | cons x l ih=>simp[ih]
omit [Cur] in
def qCR{P:Program}{H:Type}{enc:TypeId×Value->H}{f:Func}{s:ChangeSpec}{apart fresh handsOn:Bool}{W W':World}{args:Array Value}{v:Value}{ds gs:List (DataW H)}{before pv:List MemPlace}
  (hW:DataW.Whole enc P f.params.toList s.vars apart W args.toList ds gs before) (hs:(s.fn H (ds++gs)).args=ds)
  {T:TypeId->Prop}(K:Kids P T) (hz:∀t e,T t->P.underlying t=some (.slice e)->0<P.cellsOf e) (hT:∀t ∈ f.params.toList,T t)
  (hres:∀(b:Nat) (sp:Nat->Bool) (hd:Bool),DataW.TrodAll enc P W' b sp hd f.resultTypes.toList (v.resultList f.resultTypes.size) (s.fn H (ds++gs)).results [])
  (hvars:∀sp:Nat->Bool,DataW.TrodVars enc P W' sp s.vars (s.fn H (ds++gs)).vars pv)
  (hk:∀may,W.keptBut W' may):s.post enc P f apart fresh handsOn false W args v W':=by
 have hW':=hW;obtain⟨p,q,hA,_,_⟩:=hW';exact⟨ds,gs,before,[],p,pv,hW,hres _ _ _,by rw[hs];exact Trod.stay K hz hT hA hk,hvars _,hk _,λh=>by cases h⟩
end
section
variable [Cur]
variable {P:Program}{env:Tr IFn}{ho:qgM}
def kOf:IntKind->Nat
 | .i8=>0 | .i16=>1 | .i32=>2 | .i64=>3 | .u8=>4 | .u16=>5 | .u32=>6 | .u64=>7
omit [Cur] in
def qtn{a b:IntKind}(h:Nat.beq (kOf a) (kOf b)=true):a=b:=by
 cases a<;>cases b<;>first|rfl|cases h
def qF0:Int->Int->Bool
 | .ofNat a,.ofNat b=>Nat.beq a b
 | .negSucc a,.negSucc b=>Nat.beq a b
 | _,_=>false
omit [Cur] in
def qth:∀{a b:Int},qF0 a b=true->a=b
 | .ofNat a,.ofNat b,h=>by rw[Nat.eq_of_beq_eq_true h]
 | .negSucc a,.negSucc b,h=>by rw[Nat.eq_of_beq_eq_true h]
 | .ofNat _,.negSucc _,h=>by cases h
 | .negSucc _,.ofNat _,h=>by cases h
omit [Cur] in
def qs4{x y:List UInt8}(h:eqS x y=true):x=y:=by
 rw[qcg]at h;exact G0
def tt(b:Bool):Prop:=Bool.rec (motive:=λ_=>Prop) False True b
omit [Cur] in
def qKU{b:Bool}(h:tt b):b=true:=by cases b with|true=>rfl|false=>exact h.elim
end
section
variable [Cur]
variable {P:Program}
def Tr.o(l r:Tr IFn):Tr IFn:=.node none l r
def Tr.f(i:IFn):Tr IFn:=.node (some i) .leaf .leaf
def Tr.g(i:IFn)(l r:Tr IFn):Tr IFn:=.node (some i) l r
mutual
def qdR:AV->Bool
 | .map _=>false
 | .fz _ _=>false
 | .pf _ _=>false
 | .sym _=>false
 | .fn _ a c=>jZ a&&jZ c
 | .ifc _ v=>qdR v
 | .agg cs=>jZ cs
 | .tup cs=>jZ cs
 | .ptr _ _=>true | .sl _ _ _ _ _=>true | .own _ _=>true
 | .undef=>true | .b _=>true | .i _ _=>true | .s _=>true | .nilp=>true | .nils=>true | .nilf=>true | .nili=>true | .nilm=>true | .e0=>true | .nz=>true | .yl _=>true | .lp _=>true
def jZ:List AV->Bool
 | []=>true
 | v::vs=>qdR v&&jZ vs
end
mutual
def VR.thaw{Z:Ren}{φ:Fz}:∀{a:AV}{v:Value},VR σ0 Z a v->qdR a=true->VR σ0 ⟨Z.loc,φ,Z.n⟩ a v
 | _,_,.undef v,_=>.undef v
 | _,_,.b x,_=>.b x
 | _,_,.i k n,_=>.i k n
 | _,_,.s x,_=>.s x
 | _,_,.nilp,_=>.nilp
 | _,_,.ptr b o L h,_=>.ptr b o L h
 | _,_,.nils,_=>.nils
 | _,_,.sl b o len cap c loose L h hc,_=>.sl b o len cap c loose L h hc
 | _,_,.slz b o x l L h,_=>.slz b o x l L h
 | _,_,.nilf,_=>.nilf
 | _,_,.fn f first cap first' cap' h1 h2,hc=>by
  simp only[qdR,zzB]at hc;exact .fn _ _ _ _ _ (h1.thaw hc.1) (h2.thaw hc.2)
 | _,_,.nili,_=>.nili
 | _,_,.ifc t v v' h,hc=>by simp only[qdR]at hc;exact .ifc _ _ _ (h.thaw hc)
 | _,_,.agg cs cs' h,hc=>by simp only[qdR]at hc;exact .agg _ _ (h.thaw hc)
 | _,_,.tup cs cs' h,hc=>by simp only[qdR]at hc;exact .tup _ _ (h.thaw hc)
 | _,_,.nilm,_=>.nilm
 | _,_,.map b L h h0,hc=>Ga
 | _,_,.sym j,hc=>Ga
 | _,_,.fz n off c cs k arr hn h hs,hc=>Ga
 | _,_,.fz0 a,hc=>Ga
 | _,_,.pf off base cs k arr h hs,hc=>Ga
 | _,_,.e0 a,_=>.e0 a
 | _,_,.nz a c,_=>.nz a c
 | _,_,.own0 b a hb,_=>.own0 b a hb
 | _,_,.own b n c L h hn hc,_=>.own b n c L h hn hc
 | _,_,.yl b L h,_=>.yl b L h
def VRs.thaw{Z:Ren}{φ:Fz}:∀{a:List AV}{v:List Value},VRs σ0 Z a v->jZ a=true->VRs σ0 ⟨Z.loc,φ,Z.n⟩ a v
 | _,_,.nil,_=>.nil
 | _,_,.cons v vs v' vs' h hs,hc=>by
  simp only[jZ,zzB]at hc;exact .cons _ _ _ _ (h.thaw hc.1) (hs.thaw hc.2)
end
omit [Cur] in
def qmF:∀{cs:List AV}{j:Nat}{v:AV},jZ cs=true->cs[j]?=some v->qdR v=true
 | [],_,_,_,h=>Ah
 | c::cs,0,v,hf,h=>by
  simp only[jZ,zzB]at hf
  exact Ad
 | c::cs,j+1,v,hf,h=>by
  simp only[jZ,zzB]at hf;exact qmF hf.2 G0
def qqJ:Blk->Bool
 | .cells _ _ _ cs=>jZ cs
 | _=>false
def Rel.thaw{Z:Ren}{φ:Fz}{B:Nat->Prop}{h:Hp}{w:World}(r:Rel σ0 Z B h w)(hφ:∀k a,φ k=some a->Z.frz k=some a)(hh:∀b x,h.tr.get b=some x->qqJ x=true):Rel σ0 ⟨Z.loc,φ,Z.n⟩ B h w:=by
 refine⟨r.dom,λb L e wf af cs hb hg=>?_,λb L es hb hg=>?_,r.excl,r.exclm,r.app,r.flr,r.base,Dz,r.dn⟩
 .obtain⟨g1,c,ty,fz,g2,g3,g4,g5,g6⟩:=r.cells b L e wf af cs hb hg;exact⟨g1,c,ty,fz,g2,g3,g4,λj v hv=>let ⟨v',g7,g8⟩:=g5 j v hv;⟨v',g7,g8.thaw (qmF (hh b _ hg) hv)⟩,g6⟩
 .have:=hh b _ hg;cases this
def qjv.of_SC{f:Nat}{vs':List AV}{v:AV}{bs:List Blk}(hv:qdR v=true)(hbs:bs.all qqJ=true)(hs:SC P f vs' H0 (qv7 v bs)):qjv P f vs' v bs:=by
 intro h vs k hf hk;refine⟨hs.1,λZ B w args r ha=>?_⟩
 have hcr:=hf.ok r ha;refine qcb.mono (hs.2 ⟨λ_=>none,wA Z h w,0⟩ (low w.heap.size) w args r.bare Fo) ?_
 rintro e w1 ⟨v0,v',h1,Z1,rfl,g1,g2,g3,g4⟩;obtain⟨src,s1,s2,s3⟩:=g1 g4.fl;have hw:Wk 0 (mkT [(0,v0)]) h1 (mkT [(0,v)]) (mkH 0 bs):=Wk.mk [(0,v)] bs src ⟨⟨v0,Ej,s1⟩,trivial⟩ s2 s3 g4.fl
 obtain⟨Z2,t2,r2,k2⟩:=hw Z1 (low w.heap.size) w1 #[v'] (λj x hj=>by
  have:=qeH hj
  exact Ad) g3
 have hv2:VR σ0 Z2 v v':=by
  have:=(t2 0 v Ej).2
  exact Ad
 have hφ:∀k a,Z.frz k=some a->Z2.frz k=some a:=by grind[Kep.frz,Kept.frz,wN]
 have r3:=r2.thaw (φ:=Z.frz) hφ (λb x hx=>by
  rw[qan]at hx
  exact Ah)
 have hv3:=hv2.thaw (φ:=Z.frz) hv;refine⟨_,v',_,Z.join ⟨Z2.loc,Z.frz,Z2.n⟩ h.sz bs.length,rfl,hk,hv3.sh r3.dn.1,Rel.joinH r r3 g4.pres g4.wle (λ_ _ h=>h) Ad,?_⟩
 refine⟨by grind[ql2],by rw[qfI];exact Ac,qhL,by grind[qbt],Ce,g4.wle,g4.io,λ_ _ h=>h,λ_ _ h=>.inl h,?_⟩
 exact zzg r.dn.1 (Nat.le_add_right _ _)
theorem qjv.mk{f:Nat}{i:IFn}{vs:List AV}{v:AV}{bs:List Blk}(hc:qdN P f i=true)(hv:qdR v=true)(hbs:bs.all qqJ=true)(hV:V P 0 i.body (xG i.res (qv7 v bs)) (qaS vs 0 .leaf) H0):qjv P f vs v bs :=
 qjv.of_SC hv hbs (SC.mk hc (qj hV))
end
section
variable [Cur]
variable {P:Program}{n:Nat}{h:Hp}
def bsy(r:Loop):Loop:={ r with state:=.busy }
def rdy(r:Loop):Loop:={ r with state:=.ready,pending:=none }
def dne(r:Loop)(c:Code):Loop:={ r with state:=.done,pending:=some c }
structure LoopOk (P:Program) (r:Loop) (ps:List Nat) (ai bi:ICode):Prop where
 params:r.params.toList=ps
 code:∃nt,qP P nt r.assign ai=true/\qP P nt r.body bi=true/\nt<=r.tmps.size/\∀p ∈ ps,p<nt
 flat:qb5 ai=true/\qb5 bi=true
 real:∀j,r.assign≠.goto j
def qsK(P:Program)(r:Loop)(ps:List Nat)(ai bi:ICode):Prop:=∀r',qcc r r'->LoopOk P r' ps ai bi
def LoopOk.likes{r:Loop}{ps:List Nat}{ai bi:ICode}(h:LoopOk P r ps ai bi):qsK P r ps ai bi:=λr' hl=>by
 rcases hl with⟨rfl,_⟩|⟨j,h1,_⟩
 all_goals grind[LoopOk.real]
def qcc.bsy{r r':Loop}(h:qcc r r'):qcc (Go.Kc.bsy r) (Go.Kc.bsy r'):=by
 rcases h with⟨rfl,h0⟩|⟨j,h1,h2,_,h4⟩
 .exact .inl ⟨rfl,h0⟩
 .exact .inr ⟨j,h1,Cur.st .busy r'.pending h2,rfl,h4⟩
omit [Cur] in
def qeL{r:Loop}:rdy (bsy r)=rdy r:=rfl
def qkp:List Nat->List AV->Tr AV->Tr AV
 | p::ps,u::us,t=>qkp ps us (t.set p u)
 | _,_,t=>t
def qFE(b:Nat)(k:AV->Hp->Prop)(x:X)(_:Tr AV)(h:Hp):Prop :=
 ∃r ts,h.tr.get b=some (.map (zu r ts))/\onX x (k (.b true) (h.put b (.map (zu (rdy r) ts)))) (λid=>k (.b false) (h.put b (.map (zu (dne r (.exit id)) ts)))) (k (.b false) (h.put b (.map (zu (dne r .ret) ts))))
def qLC(P:Program)(n b:Nat)(r:Loop)(bi:ICode)(Q:X->Tr AV->Hp->Prop)(x:X)(t:Tr AV)(h:Hp):Prop :=
 onX x (∃ts,h.tr.get b=some (.map (zu r ts))/\S P n bi Q t (h.put b (.map (zu (bsy r) ts)))) (λ_=>False) False
def qJL(P:Program)(n b:Nat)(bi:ICode)(Q:X->Tr AV->Hp->Prop)(x:X)(t:Tr AV)(h:Hp):Prop :=
 onX x (∃r ts R,h.tr.get b=some (.map (zu r ts))/\r.state = .ready/\(∀q,qcc r q->qcc R (bsy q))/\S P n bi Q t (h.put b (.map (zu R ts)))) (λ_=>False) False
def qFL:X->Loop->Loop
 | .normal,q=>rdy q
 | .exit id,q=>dne q (.exit id)
 | .ret,q=>dne q .ret
def goes:X->Bool
 | .normal=>true
 | _=>false
def qD0(b:Nat)(k:AV->Hp->Prop)(x:X)(_:Tr AV)(h:Hp):Prop :=
 ∃r ts R,h.tr.get b=some (.map (zu r ts))/\(∀q,qcc r q->qcc R (qFL x q))/\k (.b (goes x)) (h.put b (.map (zu R ts)))
def qxt{b:Nat}{k:AV->Hp->Prop}{x:X}{t:Tr AV}{h:Hp}(hq:qFE b k x t h):qD0 b k x t h:=by
 obtain⟨r,ts,h1,h2⟩:=hq;cases x with
 | normal=>exact⟨r,ts,rdy r,h1,λq hq=>hq.set .ready none,h2⟩
 | exit id=>exact⟨r,ts,dne r (.exit id),h1,λq hq=>hq.set .done (some (.exit id)),h2⟩
 | ret=>exact⟨r,ts,dne r .ret,h1,λq hq=>hq.set .done (some .ret),h2⟩
omit [Cur] in
def qtM{Z:Ren}:∀{ps:List Nat}{us:List AV}{t:Tr AV}{tm:Array Value}{args:List Value},VRs σ0 Z us args->ps.length=us.length->(∀p ∈ ps,p<tm.size)->TR σ0 Z t tm->
  TR σ0 Z (qkp ps us t) ((ps.zip args).foldl (λtm (p,v)=>tm.setIfInBounds p v) tm)
 | [],[],_,_,_,hv,_,_,ht=>by cases hv;exact ht
 | [],_::_,_,_,_,_,hl,_,_=>Ah
 | _::_,[],_,_,_,_,hl,_,_=>Ah
 | p::ps,u::us,t,tm,args,hv,hl,hp,ht=>by
  cases hv with
  | cons _ _ v vs h1 h2 =>
   have hlt:=hp p (by simp);refine qtM (ps:=ps) h2 Ad (λq hq=>Ad) (λj x hj=>?_)
   rw[zz4]at hj;split at hj
   .exact Ad
   .rename_i he;obtain⟨g1,g2⟩:=ht j x hj;refine⟨Ad,?_⟩
    rw[Array.getD_eq_getD_getElem?,zzw,if_neg Ac,<- Array.getD_eq_getD_getElem?];exact g2
omit [Cur] in
def qKJ{Z:Ren}{tm:Array Value}:∀{ts:List (Nat×AV)},(∀p ∈ ts,p.1<tm.size/\VR σ0 Z p.2 (tm.getD p.1 undef))->TR σ0 Z (mkT ts) tm :=
 λh j v hj=>h (j,v) (qeH hj)
omit [Cur] in
def qtA:∀{ts:List (Nat×AV)},(ts.map Prod.fst).Nodup->∀{p:Nat×AV},p ∈ ts->(mkT ts).get p.1=some p.2
 | [],_,_,hp=>by cases hp
 | q::ts,hn,p,hp=>by
  simp only[mkT,zz4];have hn2:=List.nodup_cons.1 hn;rcases zzc.1 hp with rfl|hp
  .rw[if_pos rfl]
  .rw[if_neg Ah];exact qtA hn2.2 hp
omit [Cur] in
def qjU:∀(l:List (Nat×Value)) (tm:Array Value),(l.foldl (λtm (p,v)=>tm.setIfInBounds p v) tm).size=tm.size
 | [],_=>rfl
 | p::l,tm=>by rw[List.foldl_cons,qjU l];simp
def SY.mkL{b:Nat}{us:List AV}{k:AV->Hp->Prop}{r:Loop}{ts:List (Nat×AV)}{ps:List Nat}{ai bi:ICode}(hg:h.tr.get b=some (.map (zu r ts)))(hok:qsK P r ps ai bi)(hfl:h.fl<=b)(hbs:b<h.sz)(hl:ps.length=us.length)
  (hA:S P h.sz ai (qJL P h.sz b bi (qD0 b k)) (qkp ps us (mkT ts)) h):SY P b us h k:=by
 intro Z B w args L hL rl hargs;obtain⟨L0,ob,hob,hrec⟩:=rl.maps b L _ hL hg;obtain⟨q,rfl,hlk,hts⟩:=hrec.rec';have hokq:=hok q hlk;obtain⟨nt,hca,hcb,hnt,hps⟩:=hokq.code
 have hsz:args.size=q.params.size:=by
  have:=hargs.length;have h2:q.params.size=ps.length:=by rw[<- hokq.params];simp
  rw[h2,hl,this];simp
 refine⟨q.fn,_,q.assign,q.body,run_yield hob hsz,λro=>roundIn_of_wpIn trivial ?_⟩
 have hfold:(q.params.zip args).foldl (λtmps (t,a)=>tmps.setIfInBounds t a) q.tmps=(ps.zip args.toList).foldl (λtm (p,v)=>tm.setIfInBounds p v) q.tmps:=by
  rw[<- Array.foldl_toList,Array.toList_zip,hokq.params]
 rw[hfold]
 have hT:TR σ0 Z (qkp ps us (mkT ts)) ((ps.zip args.toList).foldl (λtm (p,v)=>tm.setIfInBounds p v) q.tmps) :=
  qtM hargs hl Ah (qKJ hts)
 have hS:=hA nt q.assign hca (zzL _) (some L.blk) (.inr hokq.flat.1) Z B w { tmps:=(ps.zip args.toList).foldl (λtm (p,v)=>tm.setIfInBounds p v) q.tmps,defers:=[] } hT (by rw[qjU];exact Ac) rl
 refine wpIn_mono hS ?_;rintro e a1 w1 ⟨x1,t1,h1,Z1,rs,hx,hq,ht1,hs1,hd1,hm,r1,k1⟩;cases hx with
 | exit id=>exact hq.elim
 | ret=>exact hq.elim
 | normal =>
  obtain⟨r',ts1,R',hg1,hrr,hRR,hB⟩:=hq;have r1:=r1.lessB (B:=B) λk hk=>.inl hk
  have hL1:Z1 b=some L:=by grind[Kep.ext]
  obtain⟨_,ob1,hob1,hrec1⟩:=r1.maps b L _ hL1 hg1;obtain⟨q1,rfl,hlk1,hts1⟩:=hrec1.rec';refine⟨w1.putObj L.blk (.loop (Go.Kc.bsy q1)),run_beginRound hob1 (hlk1.state.trans hrr),?_⟩;obtain⟨r2,k2⟩:=r1.putMap (w':=w1.putObj L.blk (.loop (Go.Kc.bsy q1))) hL1 hg1 (by rw[k1.fl];exact hfl) hob1 (es':=zu R' ts1) (.inr (.inr (.inl ⟨_,_,_,rfl,rfl,hRR _ hlk1,hts1⟩))) rfl ⟨rfl,rfl⟩;have hSb:=hB nt q.body hcb k1.szle (some L.blk) (.inr hokq.flat.2) Z1 B _ a1 ht1 hs1 r2;refine wpIn_mono hSb ?_;rintro e a3 w3 ⟨x3,t3,h3,Z3,rs3,hx3,hq3,ht3,hs3,hd3,hm3,r3,k3⟩;have r3:=r3.lessB (B:=B) λk hk=>.inl hk
  have kk:=(k1.trans (k2.kep k1.szle)).trans k3;obtain⟨r',ts',R3,hg3,hR3,hq3⟩:=hq3;have hL3:Z3 b=some L:=by grind[Kep.ext]
  obtain⟨_,ob3,hob3,hrec3⟩:=r3.maps b L _ hL3 hg3;obtain⟨q3,rfl,hlk3,hts3⟩:=hrec3.rec'
  have fin:∀(lq:Loop) (y:Bool),qcc R3 lq->lq.tmps=q3.tmps->k (.b y) (h3.put b (.map (zu R3 ts')))->(∃v v0 h' Z',Ending.returned (Value.bool y) = .returned v0/\k v h'/\VR σ0 Z' v v0/\Rel σ0 Z' B h' (w3.putObj L.blk (.loop lq))/\Kept Z B h w Z' h' (w3.putObj L.blk (.loop lq))):=by
   intro lq y hlp htm hk;obtain⟨r4,k4⟩:=r3.putMap (w':=w3.putObj L.blk (.loop lq)) hL3 hg3 (by rw[kk.fl];exact hfl) hob3 (es':=zu R3 ts') (.inr (.inr (.inl ⟨_,_,_,rfl,rfl,hlp,by rw[htm];exact hts3⟩))) rfl ⟨rfl,rfl⟩
   exact⟨.b y,.bool y,_,Z3,rfl,hk,.b _,r4,(kk.trans (k4.kep kk.szle)).kept rl.dn.1⟩
  have hlf:=hR3 q3 hlk3;cases hx3 with
  | normal=>exact⟨_,_,run_endRound none hob3,fin (Go.Kc.rdy q3) true hlf rfl hq3⟩
  | exit id=>exact⟨_,_,run_endRound (some (.exit id)) hob3,fin (dne q3 (.exit id)) false hlf rfl hq3⟩
  | ret=>exact⟨_,_,run_endRound (some .ret) hob3,fin (dne q3 .ret) false hlf rfl hq3⟩
theorem SY.mk{b:Nat}{us:List AV}{k:AV->Hp->Prop}{r:Loop}{ts:List (Nat×AV)}{ps:List Nat}{ai bi:ICode}(hg:h.tr.get b=some (.map (zu r ts)))(hr:r.state = .ready)(hok:LoopOk P r ps ai bi)(hfl:h.fl<=b)(hbs:b<h.sz)(hl:ps.length=us.length)
  (hA:S P h.sz ai (qLC P h.sz b r bi (qFE b k)) (qkp ps us (mkT ts)) h):SY P b us h k:=by
 refine SY.mkL hg hok.likes hfl hbs hl ?_;intro nt code hc hn ro hro Z B w a ht hsz rl;refine wpIn_mono (hA nt code hc hn ro hro Z B w a ht hsz rl) ?_;rintro e a1 w1 ⟨x1,t1,h1,Z1,rs,hx,hq,rest⟩;refine⟨x1,t1,h1,Z1,rs,hx,?_,rest⟩;cases x1 with
 | normal=>obtain⟨ts1,g1,g2⟩:=hq;exact⟨r,ts1,Go.Kc.bsy r,g1,hr,λq hq=>hq.bsy,g2.mono λe t h=>qxt⟩
 | exit id=>exact hq
 | ret=>exact hq
def qBy(b:Nat)(Q:X->Tr AV->Hp->Prop)(t:Tr AV)(_:AV)(h:Hp):Prop :=
 ∃r ts,h.tr.get b=some (.map (zu r ts))/\r.state≠.busy /\
  match r.pending with
  | none=>Q .normal t (h.put b .dead)
  | some .ret=>Q .ret t (h.put b .dead)
  | some (.exit id)=>Q (.exit id) t (h.put b .dead)
  | _=>False
def rfK(P:Program)(ps:List Nat)(ai bi:ICode)(Q:X->Tr AV->Hp->Prop)(t:Tr AV)(ts:List (Nat×AV))(h:Hp)(g:AV):Prop :=
 match g with
 | .fn f first cap=>qiv P f/\∀r0,r0.state = .ready->r0.pending=none->LoopOk P r0 ps ai bi->SC P f (first++(.yl h.sz::cap)) (h.push (.map (zu r0 ts))) (qBy h.sz Q t)
 | _=>False
def qL5(P:Program)(ps:List Nat)(ai bi:ICode)(Q:X->Tr AV->Hp->Prop)(t:Tr AV)(ts:List (Nat×AV))(h:Hp)(g:AV):Prop :=
 match g with
 | .fn f first cap=>qiv P f/\∀r0,r0.state = .ready->r0.pending=none->LoopOk P r0 ps ai bi->∃R,qcc R r0/\SC P f (first++(.yl h.sz::cap)) (h.push (.map (zu R ts))) (qBy h.sz Q t)
 | _=>False
def S.rangeFL{j:Nat}{g:O}{ps:List Nat}{ai bi:ICode}{Q:X->Tr AV->Hp->Prop}{t:Tr AV}{h:Hp}{ts:List (Nat×AV)}(hfl:h.fl<=h.sz)(htg:∀p ∈ ts,t.get p.1=some p.2)(hnr:qb5 ai=true/\qb5 bi=true)(hk:evK t g (qL5 P ps ai bi Q t ts h)):S P n (.rangeF j g ps ai bi) Q t h:=by
 intro nt code hc hn ro hro Z B w a ht hsz r
 obtain rfl:ro=none:=by
  rcases hro with h|h
  .exact h
  .cases h
 cases code<;>first|(simp[qP]at hc;done)|skip
 rename_i og ops oa ob;simp only[qP,zzB]at hc;obtain⟨⟨⟨⟨⟨h1,h2⟩,h3⟩,h4⟩,h5⟩,h6⟩:=hc;have hreal:∀j,oa≠.goto j:=λj hj=>by rw[hj]at h6;cases h6
 have h2:=eq_of_beq h2;obtain⟨gv,hgv,hk2⟩:=qR ht h1 hk;cases gv<;>try exact hgv.elim
 rename_i f first cap
 obtain⟨⟨fn0,c1,c2,c3⟩,hS⟩:=hgv;obtain⟨a',c',q1,q2,q3⟩:=hk2.un_fn;have hLd:∀b L,Z b=some L->L.blk<w.heap.size:=r.dn.2;refine wpIn_rangeFunc λfn _=>?_
 let r0:Loop:={ state:=.ready,pending:=none,fn,tmps:=a.tmps,params:=ops,assign:=oa,body:=ob,defers:=w.heap.size }
 let W1:World:=(w.alloc (.deferred (some []))).alloc (.loop r0)
 have hold:∀k,k<w.heap.size->(w.alloc (.deferred (some []))).heap[k]?=w.heap[k]?:=λk hk=>by
  show(w.heap.push _)[k]?=_;rw[Array.getElem?_push,if_neg Ac]
 have hD:(w.alloc (.deferred (some []))).heap[w.heap.size]?=some (.deferred (some [])):=World.alloc_heap_new w _
 have r1:Rel σ0 Z (BM B [w.heap.size]) h (w.alloc (.deferred (some []))):=by
  have r':=r.world (w':=w.alloc (.deferred (some []))) hold (by simp);refine⟨r'.dom,r'.cells,r'.maps,r'.excl,r'.exclm,r'.app,λb L hb hf hB=>?_,λk hk=>?_,r'.frz,r'.dn⟩
  .rcases hB with hB|hB
   all_goals grind[Rel.flr]
  .rcases hk with hk|hk
   .have:=r.base k hk;simp;exact Ac
   exact Ad
 have hts:∀p ∈ ts,p.1<r0.tmps.size/\VR σ0 Z p.2 (r0.tmps.getD p.1 undef):=λp hp=>ht p.1 p.2 (htg p hp)
 have hlo:LoopOk P r0 ps ai bi:=⟨h2,⟨nt,h4,h5,hsz,λp hp=>by rw[<- h2]at hp;have:=zzy.1 h3 p hp;exact Ad⟩,hnr,hreal⟩
 obtain⟨R,hRl,hSC⟩:=hS r0 rfl rfl hlo;obtain⟨r2,k2⟩:=r1.newMap (w':=W1) (es0:=zu R ts) (o:=.loop r0) (.inr (.inr (.inl ⟨_,_,_,rfl,rfl,hRl,hts⟩))) rfl ⟨rfl,rfl⟩;have hl:(w.alloc (.deferred (some []))).heap.size=w.heap.size+1:=by simp
 rw[hl]at r2 k2;obtain⟨Lc,hLc⟩:∃Lc:Loc,Lc=⟨w.heap.size+1,0,0,0⟩:=⟨_,rfl⟩;rw[<- hLc]at r2 k2;have hself:(Z.add h.sz Lc) h.sz=some Lc:=Ren.add_self _ _ _;have hle2:=k2.mono r1.dom
 have hargs:VRs σ0 (Z.add h.sz Lc) (first++(.yl h.sz::cap)) (a' ++ #[Value.func (.yield (w.heap.size+1)) #[] #[]]++c').toList:=by
  have hy:VR σ0 (Z.add h.sz Lc) (.yl h.sz) (.func (.yield Lc.blk) #[] #[]):=.yl _ Lc hself;have e2:Lc.blk=w.heap.size+1:=by rw[hLc]
  rw[e2]at hy;have:=(q1.mono hle2).append (VRs.cons _ _ _ _ hy (q2.mono hle2))
  exact Ad
 have hcf:=qaD (P:=P) c1 c2 c3
 have hcalls:Calls P f (a' ++ #[Value.func (.yield (w.heap.size+1)) #[] #[]]++c') W1 λe w'=>∃v v' h' Z',e = .returned v'/\qBy h.sz Q t v h'/\VR σ0 Z' v v'/\Rel σ0 Z' (BM B [w.heap.size]) h' w'/\Kept (Z.add h.sz Lc) (BM B [w.heap.size]) (h.push (.map (zu R ts))) W1 Z' h' w':=by
  rcases hSC.2 _ _ _ _ r2 hargs with⟨_,hh⟩|⟨v,w',hh,_⟩
  all_goals grind
 have hev:(({ a with defers:=qlA [w.heap.size]++a.defers }:Act)).eval og = .func (.func f) a' c':=q3;refine⟨w.heap.size+1,[{ target:=.collected w.heap.size,args:=#[] }],W1,{ target:=.fn (.func f) c',args:=a' ++ #[Value.func (.yield (w.heap.size+1)) #[] #[]] },W1,f,a' ++ #[Value.func (.yield (w.heap.size+1)) #[] #[]]++c',W1,run_enterLoop_outer _ _ _ _ _,?_,λ_ _=>trivial,?_,λhh=>(by cases hh),qqN (Calls.mono hcalls ?_)⟩
 .simp only[resolve,q3];simp[go_sem,Deferred.ofValue,q3]
 .simp[invoke,hcf]
 rintro e w2 ⟨v,v',h2',Z2,rfl,hend,hv,r3,k3⟩;obtain⟨r',ts',hg',hst,hmt⟩:=hend;have hL2:Z2 h.sz=some Lc:=(k3.ext _ (by show _<Nat.succ _;exact Ac)).trans hself
 obtain⟨_,ob2,hob2,hrec2⟩:=r3.maps _ Lc _ hL2 hg';obtain⟨q2,rfl,hlk2,hts2⟩:=hrec2.rec';have hob3:w2.heap[w.heap.size+1]?=some (.loop q2):=by rw[hLc]at hob2;exact Ac
 have hfl2:h2'.fl<=h.sz:=by rw[k3.fl];exact hfl
 obtain⟨re,hre⟩:∃re:Loop,re={ q2 with state:=.exhausted }:=⟨_,rfl⟩;obtain⟨re',hre'⟩:∃re':Loop,re'={ r' with state:=.exhausted }:=⟨_,rfl⟩
 have hlre:qcc re' re:=by
  have:=hlk2.set .exhausted q2.pending;rw[hre,hre'];have e:({ r' with state:=.exhausted,pending:=q2.pending }:Loop)={ r' with state:=.exhausted }:=by rw[hlk2.pending]
  rw[e]at this;exact Ac
 have hts4:∀p ∈ ts',p.1<re.tmps.size/\VR σ0 Z2 p.2 (re.tmps.getD p.1 undef):=by rw[hre];exact Ac
 have hend2:=run_endLoop (P:=P) hob3 (by rw[hlk2.state];exact Ac);rw[<- hre]at hend2;clear hre;obtain⟨r4,k4⟩:=r3.putMap (w':=w2.putObj (w.heap.size+1) (.loop re)) hL2 hg' hfl2 hob2 (es':=zu re' ts') (.inr (.inr (.inl ⟨_,_,_,rfl,rfl,hlre,hts4⟩))) (by rw[hLc];rfl) ⟨rfl,rfl⟩
 have r5:Rel σ0 Z2 (BM B [w.heap.size]) (h2'.put h.sz .dead) (w2.putObj (w.heap.size+1) (.loop re)):=by
  refine r4.sub rfl rfl λb x hx hd=>?_
  simp only[Hp.put,zz4]at hx ⊢
  exact Ah
 have hD1:W1.heap[w.heap.size]?=some (.deferred (some [])):=by
  show((w.alloc (.deferred (some []))).heap.push _)[w.heap.size]?=_;rw[Array.getElem?_push,if_neg (by rw[hl];exact Ac)];exact hD
 have hD2:(w2.putObj (w.heap.size+1) (.loop re)).heap[w.heap.size]?=some (.deferred (some [])):=by
  rw[World.putObj_heap_other Ac,k3.pres _ (.inr (by simp))];exact Ac
 have k0:Kep n Z B h w Z h (w.alloc (.deferred (some []))):=⟨λ_ _=>rfl,hn,rfl,λ_ _ _=>rfl,by grind[Rel.base],by simp,⟨rfl,rfl⟩,λ_ _ h=>h,λ_ _ h=>.inl h,λ_ _ h=>h⟩
 have hn2:n<=(h.push (.map (zu R ts))).sz:=zzg hn (Nat.le_succ _);have hn3:n<=h2'.sz:=zzg hn2 k3.szle
 have k5:Kep n Z2 (BM B [w.heap.size]) h2' w2 Z2 (h2'.put h.sz .dead) (w2.putObj (w.heap.size+1) (.loop re)) :=
  ⟨λ_ _=>rfl,hn3,rfl,λb hb _=>by simp only[Hp.put,zz4];rw[if_neg Ac],k4.pres,k4.wle,k4.io,λ_ _ h=>h,λ_ _ h=>.inl h,λ_ _ h=>h⟩
 have kk:Kep n Z B h w Z2 (h2'.put h.sz .dead) (w2.putObj (w.heap.size+1) (.loop re)):=((k0.trans (k2.kep hn).bm).trans (k3.kep hn2).bm).trans k5.bm
 have fin:∀(x:X) (e:Exit),XR x e->Q x t (h2'.put h.sz .dead)->qcF σ0 Q nt n Z B h w a.defers e { a with defers:=[{ target:=.collected w.heap.size,args:=#[] }]++a.defers } (w2.putObj (w.heap.size+1) (.loop re)):=λx e hx hq =>
  ⟨x,t,_,Z2,[w.heap.size],hx,hq,ht.mono (Ren.le_trans hle2 (k3.mono r2.dom)),hsz,rfl,⟨by simp,Ah,λq hq=>by rw[zz1]at hq;exact Ah⟩,r5,kk⟩
 refine⟨q2.pending,_,hend2,?_⟩;clear hend2;rw[hlk2.pending];generalize r'.pending=pd at hmt ⊢;cases pd with
 | none=>exact fin .normal _ .normal hmt
 | some c =>
  cases c<;>first|exact hmt.elim|skip
  .exact wpIn_exit (fin _ _ (.exit _) hmt)
  .exact wpIn_ret (fin _ _ .ret hmt)
def S.rangeF{j:Nat}{g:O}{ps:List Nat}{ai bi:ICode}{Q:X->Tr AV->Hp->Prop}{ts:List (Nat×AV)}{bl:List Blk}(_:bl.all jR=true)(hnd:(ts.map Prod.fst).Nodup)(hnr:qb5 ai=true/\qb5 bi=true)(hk:evK (mkT ts) g (rfK P ps ai bi Q (mkT ts) ts (mkH 0 bl))):S P n (.rangeF j g ps ai bi) Q (mkT ts) (mkH 0 bl):=by
 refine S.rangeFL (ts:=ts) (zzu _) (λp hp=>qtA hnd hp) hnr ?_
 obtain⟨v,h1,h2⟩:=qw (mkT ts) g _ hk;refine h2 _ ?_;cases v<;>try exact h1.elim
 obtain⟨hc,hh⟩:=h1;exact⟨hc,λr0 a b hlo=>⟨r0,.inl ⟨rfl,hlo.real⟩,hh r0 a b hlo⟩⟩
end
section
variable [Cur]
variable {P:Program}{h:Hp}
inductive Gvs (h:Hp):List AV->List AV->Prop where
 | nil:Gvs h [] []
 | keep (v:AV) (vs vs':List AV) (h1:Gvs h vs vs'):Gvs h (v::vs) (v::vs')
 | fz (v v':AV) (vs vs':List AV) (hf:Frz h v v') (h1:Gvs h vs vs'):Gvs h (v::vs) (v'::vs')
 | fn (f:Nat) (a c c':List AV) (vs vs':List AV) (hc:Gvs h c c') (h1:Gvs h vs vs'):Gvs h (.fn f a c::vs) (.fn f a c'::vs')
theorem Gvs.ok{Z:Ren}{B:Nat->Prop}{w:World}(hle:Z.le ⟨Z.loc,wA Z h w,Z.n⟩)(r:Rel σ0 Z B h w):∀{vs vs':List AV}{xs:List Value},Gvs h vs vs'->VRs σ0 Z vs xs->VRs σ0 ⟨Z.loc,wA Z h w,Z.n⟩ vs' xs
 | _,_,_,.nil,hv=>by cases hv;exact .nil
 | _,_,_,.keep _ _ _ h1,hv=>by
  cases hv with
  | cons _ _ _ _ a1 a2=>exact .cons _ _ _ _ (a1.mono hle) (Gvs.ok hle r h1 a2)
 | _,_,_,.fz _ _ _ _ hf h1,hv=>by
  cases hv with
  | cons _ _ _ _ a1 a2=>exact .cons _ _ _ _ (by grind[CR.vr,Frz.ok]) (Gvs.ok hle r h1 a2)
 | _,_,_,.fn f a c c' _ _ hc h1,hv=>by
  cases hv with
  | cons _ _ _ _ a1 a2 =>
   obtain⟨a',c'',q1,q2,q3⟩:=a1.un_fn;subst q3;exact .cons _ _ _ _ (.fn _ _ _ _ _ (q1.mono hle) (Gvs.ok hle r hc q2)) (Gvs.ok hle r h1 a2)
def SC.give{f:Nat}{vs vs':List AV}{k:AV->Hp->Prop}(DB:List (Nat×Blk))(hg:∀p ∈ DB,h.tr.get p.1=some p.2/\h.fl<=p.1)(hf:Gvs ⟨h.sz,h.fl,trP DB⟩ vs vs')(hk:SC P f vs' (qd6 h DB) k):SC P f vs h k:=by
 refine⟨hk.1,λZ B w args r ha=>?_⟩
 have r0:Rel σ0 Z B ⟨h.sz,h.fl,trP DB⟩ w:=r.sub rfl rfl (λb x hx _=>(hg _ (qkF hx)).1)
 have le:Z.le ⟨Z.loc,wA Z ⟨h.sz,h.fl,trP DB⟩ w,Z.n⟩:=⟨λ_ _ h=>h,by grind[wN],zzL _⟩
 have hcr:=hf.ok le r0 ha
 have fnew:∀kk a,wA Z ⟨h.sz,h.fl,trP DB⟩ w kk=some a->Z.frz kk=some a\/((∃ty fz,w.heap[kk]?=some (.cells a ty fz))/\∃b L e af cs,b ∈ DB.map Prod.fst/\Z b=some L/\h.tr.get b=some (.cells e true af cs)/\L.blk=kk/\h.fl<=b):=by
  intro kk a hkk;rcases qdT hkk with h1|⟨h1,b,L,e,af,cs,h2,h3,h4⟩
  .exact .inl h1
  .have hm:=qkF h3;exact .inr ⟨h1,b,L,e,af,cs,List.mem_map_of_mem (f:=Prod.fst) hm,h2,(hg _ hm).1,h4,(hg _ hm).2⟩
 have jR:∀b x,(qd6 h DB).tr.get b=some x->x≠.dead->b ∉ DB.map Prod.fst/\h.tr.get b=some x:=by
  intro b x hx hd;rw[qhE]at hx;split at hx
  .cases hx;exact absurd rfl hd
  .exact Ah
 have r1:Rel σ0 ⟨Z.loc,wA Z ⟨h.sz,h.fl,trP DB⟩ w,Z.n⟩ B (qd6 h DB) w:=by
  have rs:Rel σ0 Z B (qd6 h DB) w:=by grind[Rel.sub,qkc,qkb]
  refine⟨rs.dom,λb L e wf af cs hb hx=>?_,λb L es hb hx=>?_,rs.excl,rs.exclm,rs.app,rs.flr,rs.base,λkk arr hkk=>?_,rs.dn⟩
  .obtain⟨q1,c,ty,fz,q2,q3,q4,q5,q6⟩:=rs.cells b L e wf af cs hb hx;exact Dj
  .obtain⟨q1,o,q2,q3⟩:=rs.maps b L es hb hx;exact D4
  .rcases fnew kk arr hkk with h1|⟨h1,b,L,e,af,cs,h2,h3,h4,h5,_⟩
   .exact rs.frz kk arr h1
   .refine⟨h1,λb' L' x hb' hx hd he=>?_⟩
    obtain⟨g1,g2⟩:=jR b' x hx hd;have:=r.excl b L e af cs h3 h4 b' L' x hb' g2 hd (by rw[he,h5]);subst this;exact g1 h2
 have k0:Kept Z B h w ⟨Z.loc,wA Z ⟨h.sz,h.fl,trP DB⟩ w,Z.n⟩ (qd6 h DB) w:=by
  refine⟨λ_ _=>rfl,by rw[qkc];exact zzL _,qkb,λb hb _=>?_,λ_ _=>rfl,zzL _,⟨rfl,rfl⟩,by grind[wN],λk a hk=>?_,zzL _⟩
  .rw[qhE,if_neg];intro hm;obtain⟨p,hp1,hp2⟩:=zzl.1 hm;have:=(hg p hp1).2;exact Ac
  .rcases fnew k a hk with h2|⟨_,b,L,_,_,_,_,h3,_,h5,h6⟩
   .exact .inl h2
   .right;rw[<- h5];exact r.flr b L h3 h6
 refine qcb.mono (hk.2 _ B w args r1 hcr) ?_
 grind[Kept.trans]
def PC.give{f:Nat}{vs vs':List AV}{k:AV->Hp->Prop}(DB:List (Nat×Blk))(hg:∀p ∈ DB,h.tr.get p.1=some p.2/\h.fl<=p.1)(hf:Gvs ⟨h.sz,h.fl,trP DB⟩ vs vs')(hk:PC P f vs' (qd6 h DB) k):PC P f vs h k:=by
 obtain⟨v,h',h1,h2⟩:=hk;exact⟨v,h',λk' hk'=>SC.give DB hg hf (h1 k' hk'),h2⟩
def Upd.pc{f:Nat}{vs:List AV}{bs bs2:List Blk}{v:AV}{k:AV->Hp->Prop}(at':List Nat)(hu:Upd P f vs bs v bs2)(l:Lent h at' bs)(hk:k (rnv (gAt at' h.sz) v) (qdj h at' bs2)):PC P f (qaX (gAt at' h.sz) vs) h k :=
 ⟨_,_,λ_ h'=>hu.sc at' l h',hk⟩
end
section
variable [Cur]
variable {P:Program}{h:Hp}{t:Tr AV}
def SL.loopd{n:Nat}{α:Type}{x:ICode}{Q:X->Tr AV->Hp->Prop}(T:α->List (Nat×AV))(B:α->List Blk)(I:α->Prop)(μ:α->Nat)(a0:α)(src:List Nat)
  (hT:TWs t (rl src h.sz) (B a0).length (T a0)) (hB:BWs h (rl src h.sz) (B a0).length src (B a0)) (hI:(List.map Prod.fst (List.filter (λp=>decide (p.fst<h.sz)&&jR p.snd) (src.zip (B a0)))).Nodup) (hfl:h.fl=0) (hn:n<=(B a0).length) (hlow:∀b,b<n->rl src h.sz b=b) (h0:I a0)
  (step:∀a,I a->∀G:Tr AV->Hp->Prop,(∀b,I b->μ b<μ a->∀t' h',Wk n t' h' (mkT (T b)) (mkH 0 (B b))->G t' h')->
   V P n x (λe t h=>onX e (G t h) (λid=>Q (.exit id) t h) (Q .ret t h)) (mkT (T a)) (mkH 0 (B a))):SL P n x Q t h:=by
 have main:∀m a,μ a=m->I a->SL P n x Q (mkT (T a)) (mkH 0 (B a)):=by
  intro m
  exact B5
 exact SL.weak (by grind[Wk.mkd]) (main _ a0 rfl h0)
def qp5(m:Nat)(v:AV)(bs2:List Blk)(v':AV)(h':Hp):Prop:=h'.fl=0->∃src:List Nat,NV (rl src h'.sz) bs2.length v' v/\BWs h' (rl src h'.sz) bs2.length src bs2/\(List.map Prod.fst (List.filter (λp=>decide (p.fst<h'.sz)&&jR p.snd) (src.zip bs2))).Nodup/\∀b,b<m->rl src h'.sz b=b
theorem qp5.w{m:Nat}{v:AV}{bs2:List Blk}{v':AV}{h':Hp}(hz:qp5 m v bs2 v' h')(hle:m<=bs2.length):qAx m v bs2 v' h':=by
 intro hfl;obtain⟨src,s1,s2,s3,s4⟩:=hz hfl;exact Wk.mkd [(0,v)] bs2 src ⟨⟨v',Ej,s1⟩,trivial⟩ s2 s3 hfl hle s4
theorem Upd.mkd{f:Nat}{i:IFn}{vs:List AV}{v:AV}{bs bs2:List Blk}(hc:qdN P f i=true)(hb:jq bs.length vs=true)(hl:bs.length<=bs2.length)(hV:V P bs.length i.body (xG i.res (qp5 bs.length v bs2)) (qaS vs 0 .leaf) (mkH 0 bs)):Upd P f vs bs v bs2 :=
 ⟨hb,hl,(SC.mk hc (qj hV)).mono (by grind[qp5.w])⟩
end
section
variable [Cur]
variable {P:Program}
def qyc:Op->Bool
 | .call c=>(match c.callee with | .builtin .recover=>true|_=>false)&&c.args.isEmpty
 | _=>false
def qx7(n:Nat):Op->Bool
 | .assign (.tmp m)=>m==n
 | _=>false
def qya(n:Nat):Op->Bool
 | .move (.tmp m)=>m==n
 | _=>false
def qF3(P:Program)(n:Nat):Op->Bool
 | .binOp .neq ty (.tmp m) y _=>m==n&&qe0 .iface y&&qvv P .iface ty
 | _=>false
def qqP(o:Oper):Bool:=o.guard.isNone
def qzp(P:Program)(nt:Nat)(p q r s:Oper)(c:Nat):Bool :=
 qqP p&&qqP q&&qqP r&&qqP s&&match p.dst,q.dst,r.dst,s.dst with
  | some a,some b,some e,some c'=>Nat.blt a nt&&Nat.blt b nt&&Nat.blt e nt&&Nat.blt c nt&&c'==c&&qyc p.op&&qx7 a q.op&&qya b r.op&&qF3 P e s.op
  | _,_,_,_=>false
def qzo(P:Program)(nt:Nat):Code->Bool
 | .seq (.region _ o1 false) (.seq (.region _ o2 false) (.cond (.tmp c) _ .skip))=>(match o1.toList,o2.toList with
  | [p,q],[r,s]=>qzp P nt p q r s c
  | _,_=>false)
 | _=>false
def qg1(P:Program)(f:Nat):Bool :=
 match P.funcs[f]? with
 | some fn=>fn.name != "runtime.NumGoroutine" && fn.results.isEmpty&&(match fn.body with|some c=>qzo P fn.ntmps c|none=>false)
 | none=>false
omit [Cur] in
def ql6{a:Act}{n:Nat}(h:n<a.tmps.size)(v:Value):(a.put (some n) v).eval (.tmp n)=v:=by
 simp[Act.put,Act.eval,Array.getD,h]
omit [Cur] in
def qrA{a:Act}{o:Oper}(h:qyc o.op=true)(w:World):(execOp a.eval o).run P w = .ok .recover w:=by
 unfold qyc at h;split at h
 .rename_i c hc;simp only[zzB]at h;obtain⟨h1,h2⟩:=h;split at h1<;>try (cases h1;done)
  rename_i hb;simp[execOp,hc,resolve,hb,invoke,builtin]
 exact Ah
omit [Cur] in
def qx8{n:Nat}{o:Op}(h:qx7 n o=true):o = .assign (.tmp n):=by
 unfold qx7 at h
 exact Ah
omit [Cur] in
def qyb{n:Nat}{o:Op}(h:qya n o=true):o = .move (.tmp n):=by
 unfold qya at h
 exact Ah
omit [Cur] in
def qGF(Z:Ren){n:Nat}{a:Act}{o:Oper}(h:qF3 P n o.op=true)(hv:a.eval (.tmp n) = .nilIface)(w:World):(execOp a.eval o).run P w = .ok (.value (.bool false)) w:=by
 unfold qF3 at h;split at h
 .rename_i ty m y uy ho;simp only[zzB]at h;obtain⟨⟨h1,h2⟩,h3⟩:=h;obtain rfl:=eq_of_beq h1;have hx:VR σ0 Z .nili (a.eval (.tmp m)):=by rw[hv];exact .nili
  obtain⟨c,z,g1,rfl,g2,g3,g4,g5,g6,g7⟩:=qmU (P:=P) (k:=λc=>c=true) hx (show ju .iface .nili (λc=>c=true)from rfl) h3 h2 w
  subst g1
  have hg:(eqGuard .neq ty (.tmp m) (.const z) (a.eval (.tmp m)) z).run P w = .ok () w:=by
   rw[hv];cases z<;>simp[eqGuard]
  refine qjQ ho hg ?_;show(binOp .neq ty (a.eval (.tmp m)) z).run P w=_;rw[g6 .neq (.inr rfl)];have g2':(Op.equal ty (a.eval (.tmp m)) z).run P w = .ok true w:=g2;simp[g2']
 exact Ah
omit [Cur] in
def qer{o:Oper}(h:qqP o=true)(y:Nat->Option Bool):Region.wanted o y=true:=by
 unfold qqP at h;cases hg:o.guard with
 | none=>simp[Region.wanted,hg]
 | some _=>rw[hg]at h;cases h
omit [Cur] in
def qpa{a b:Nat}(h:Nat.blt a b=true):a<b:=Ad
omit [Cur] in
def qrv(Z:Ren){fd:Nat}(hc:qg1 P fd=true)(args:Array Value)(w:World):CallsDIn (Fr none) 0 P fd args .returning w (λe u' w'=>e = .returned (.tuple #[])/\u' = .returning/\w'=w):=by
 unfold qg1 at hc;split at hc<;>try (cases hc;done)
 rename_i fn hfn;simp only[zzB]at hc;obtain⟨⟨_,hres⟩,hbody⟩:=hc;split at hbody<;>try (cases hbody;done)
 rename_i c hcb;unfold qzo at hbody;split at hbody<;>try (cases hbody;done)
 rename_i i1 o1 i2 o2 c thn;split at hbody<;>try (cases hbody;done)
 rename_i p q r s hl1 hl2;unfold qzp at hbody;simp only[zzB]at hbody;obtain⟨⟨⟨⟨f1,f2⟩,f3⟩,f4⟩,hb⟩:=hbody;split at hb<;>try (cases hb;done)
 rename_i a b e c' e1 e2 e3 e4;simp only[zzB]at hb;obtain⟨⟨⟨⟨⟨⟨⟨⟨b1,b2⟩,b3⟩,b4⟩,b5⟩,b6⟩,b7⟩,b8⟩,b9⟩:=hb;have b1:=qpa b1;have b2:=qpa b2;have b3:=qpa b3;have b4:=qpa b4;obtain rfl:=eq_of_beq b5;have b7:=qx8 b7;have b8:=qyb b8;have s1:o1 = #[p,q]:=by rw[<- Array.toList_inj];exact hl1
 have s2:o2 = #[r,s]:=by rw[<- Array.toList_inj];exact hl2
 subst s1 s2;refine callsDIn_of_wpSIn hfn hcb trivial λc₀ cs hmode=>?_
 have hsz:fn.ntmps<=(args++Array.replicate (fn.ntmps-args.size) undef).size:=by simp;exact Ac
 generalize hA:({ tmps:=args++Array.replicate (fn.ntmps-args.size) undef,defers:=[] }:Act)=A;have hsA:fn.ntmps<=A.tmps.size:=by rw[<- hA];exact hsz
 have hdA:A.defers=[]:=by rw[<- hA]
 have hrec:recoverD (c₀::cs)=none:=by simp[recoverD,hmode]
 have r1:=qrA (P:=P) (a:=A) b6 w;have m1:∀(x:Act),(execOp x.eval q).run P w = .ok (.value (x.eval (.tmp a))) w:=λx=>by simp[execOp,b7]
 have m2:∀(x:Act),(execOp x.eval r).run P w = .ok (.value (x.eval (.tmp b))) w:=λx=>by simp[execOp,b8]
 refine wpSIn_seq (wpSIn_region ?_);have hA1:(A.put (some a) .nilIface).eval (.tmp a) = .nilIface:=ql6 Ac _;generalize hB:A.put (some a) .nilIface=A1 at hA1;have z1:A1.tmps.size=A.tmps.size:=by rw[<- hB,wK]
 have hA2:(A1.put (some b) .nilIface).eval (.tmp b) = .nilIface:=ql6 Ac _;generalize hC:A1.put (some b) .nilIface=A2 at hA2;have z2:A2.tmps.size=A.tmps.size:=by rw[<- hC,wK,z1]
 have hA3:(A2.put (some e) .nilIface).eval (.tmp e) = .nilIface:=ql6 Ac _;generalize hD:A2.put (some e) .nilIface=A3 at hA3;have z3:A3.tmps.size=A.tmps.size:=by rw[<- hD,wK,z2]
 have hA4:(A3.put (some c') (.bool false)).eval (.tmp c') = .bool false:=ql6 Ac _;generalize hE:A3.put (some c') (.bool false)=A4 at hA4;have d4:A4.defers=[]:=by rw[<- hE,wn,<- hD,wn,<- hC,wn,<- hB,wn,hdA]
 have m3:=qGF (P:=P) Z b9 hA3 w;have l2:List.range (#[p,q]:Array Oper).size=[0,1]:=rfl;have l3:List.range (#[r,s]:Array Oper).size=[0,1]:=rfl;have g0:(#[p,q]:Array Oper)[0]?=some p:=rfl;have g1:(#[p,q]:Array Oper)[1]?=some q:=rfl;have g2:(#[r,s]:Array Oper)[0]?=some r:=rfl;have g3:(#[r,s]:Array Oper)[1]?=some s:=rfl;rw[l2];simp only[wpOpsSIn,g0,g1,qer f1,qer f2,if_true,r1,hrec,e1,hB,m1,hA1,e2,hC];refine⟨λ_ _=>trivial,λ_ _=>trivial,?_⟩
 refine wpSIn_seq (wpSIn_region ?_);rw[l3];simp only[wpOpsSIn,g2,g3,qer f3,qer f4,if_true,m2,hA2,e3,hD,m3,e4,hE];refine⟨λ_ _=>trivial,λ_ _=>trivial,?_⟩
 refine wpSIn_cond hA4 (wpSIn_of_wpIn rfl (wpIn_skip ?_));refine⟨d4,.returning,?_,.tuple #[],?_,rfl,rfl,rfl⟩
 .cases c₀;cases hmode;rfl
 simp_all[qnk]
def qx9(n:Nat):Op->Bool
 | .defer c=>(match c.callee with | .value (.tmp m)=>m==n|_=>false)&&c.args.isEmpty
 | _=>false
omit [Cur] in
def qom{n fd:Nat}{a:Act}{o:Oper}{cap:Array Value}(h:qx9 n o.op=true)(hv:a.eval (.tmp n) = .func (.func fd) #[] cap)(w:World):(execOp a.eval o).run P w = .ok (.defer { target:=.fn (.func fd) cap,args:=#[] }) w:=by
 unfold qx9 at h;split at h
 .rename_i c hc;simp only[zzB]at h;obtain⟨h1,h2⟩:=h;split at h1<;>try (cases h1;done)
  rename_i m hb;obtain rfl:=eq_of_beq h1;have h2:c.args = #[]:=F0
  simp[execOp,hc,resolve,hb,hv,h2,Deferred.ofValue]
 exact Ah
def qdO(P:Program)(f fd:Nat)(i:IFn):Bool :=
 qg1 P fd&&match i.body with
 | .seq (.reg false rsA) (.seq (.reg false rsB) (.seq (.reg false (r0::_)) y))=>(match P.funcs[f]? with
  | some fn=>fn.name != "runtime.NumGoroutine" && (match fn.body with
   | some (.seq (.region _ oA false) (.seq (.region _ oB false) (.seq (.region _ oD false) c)))=>qdP P oA fn.ntmps oA.toList rsA&&qdP P oB fn.ntmps oB.toList rsB&&(match oD.toList,r0.dst with
    | [o0,o1],some d=>qqx P oD fn.ntmps o0 r0&&r0.guard.isNone&&qqP o0&&qqP o1&&qx9 d o1.op&&o1.dst.isNone
    | _,_=>false)&&qP P fn.ntmps c y
   | _=>false)&&qcf P fn.results.toList i.res
  | none=>false)
 | _=>false
def ql1(fd:Nat)(r0:ROp)(t:Tr AV):Prop:=∃d cs,r0.dst=some d/\t.get d=some (.fn fd [] cs)
def VDf(P:Program)(n fd:Nat):ICode->(X->Tr AV->Hp->Prop)->Tr AV->Hp->Prop
 | .seq (.reg _ rsA) (.seq (.reg _ rsB) (.seq (.reg _ (r0::_)) y)),Q,t,h=>VG P rsA (λt h=>VG P rsB (λt h=>VG P [r0] (λt h=>ql1 fd r0 t/\V P n y Q t h) t h) t h) t h
 | _,_,_,_=>False
def qje{fn:Func}{tm:Array Value}{Z Z':Ren}{B:Nat->Prop}{h h':Hp}{w:World}{R:Ending->World->Prop}{ds:List Deferred}(hT:∀w',Rel σ0 Z' B h' w'->Kept Z B h w Z' h' w'->LeavesInM (Fr none) 0 P fn tm R ds .returning w') :
  ∀(rs:List Nat) {w':World},(∀r ∈ rs,w'.heap[r]?=some (.deferred (some [])))->rs.Nodup->(∀r ∈ rs,¬B r)->Rel σ0 Z' B h' w'->Kept Z B h w Z' h' w'->LeavesInM (Fr none) 0 P fn tm R (qlA rs++ds) .returning w'
 | [],w',_,_,_,hr',hk=>hT w' hr' hk
 | r::rs,w',hm,hn,hB,hr',hk=>by
  have h1:=hm r (by simp);refine⟨by simp,.inl ⟨r,w'.putObj r (.deferred none),rfl,run_takeDeferred h1,?_⟩⟩
  have hn2:=List.nodup_cons.1 hn;refine qje hT rs (λr' hr2=>?_) hn2.2 (λr' hr2=>hB r' Ah) (hr'.shut h1 _) ?_
  .rw[World.putObj_heap_other (by rintro rfl;exact hn2.1 hr2)];exact Ad
  .exact⟨hk.ext,hk.szle,hk.fl,hk.akeep,λk hb=>by rw[World.putObj_heap_other Ah];exact hk.pres k hb,by simpa using hk.wle,hk.io,hk.frz,hk.fnew,hk.nle⟩
def SC.mkD{f fd:Nat}{i:IFn}{vs:List AV}{h:Hp}{k:AV->Hp->Prop}(hc:qdO P f fd i=true)(hV:VDf P h.sz fd i.body (xG i.res k) (qaS vs 0 .leaf) h):SC P f vs h k:=by
 unfold qdO at hc;simp only[zzB]at hc;obtain⟨hquiet,hc⟩:=hc;split at hc<;>try (cases hc;done)
 rename_i rsA rsB r0 rest y hbody;rw[hbody]at hV;split at hc<;>try (cases hc;done)
 rename_i fn hfn;simp only[zzB,bne_iff_ne]at hc;obtain⟨⟨hname,hc⟩,hres⟩:=hc;split at hc<;>try (cases hc;done)
 rename_i iA oA iB oB iD oD c hcb;simp only[zzB]at hc;obtain⟨⟨⟨hA,hB⟩,hD⟩,hcode⟩:=hc;split at hD<;>try (cases hD;done)
 rename_i o0 o1 d hl hd0;simp only[zzB]at hD;obtain⟨⟨⟨⟨⟨hr0,hg0⟩,hf0⟩,hf1⟩,hdef⟩,hdst⟩:=hD;have sD:oD = #[o0,o1]:=by rw[<- Array.toList_inj];exact hl
 subst sD;have hdst:o1.dst=none:=Ad
 refine⟨trivial,λZ B w args r ha=>.inl ⟨⟨fn,hfn,hname,Hq⟩,?_⟩⟩
 have r00:=r
 have ht:TR σ0 Z (qaS vs 0 .leaf) (args++Array.replicate (fn.ntmps-args.size) undef):=by
  intro j v hv;rcases qhX _ _ _ _ _ hv with⟨_,h3⟩|h3
  .simp only[Nat.sub_zero]at h3;obtain⟨v',h4,h5⟩:=ha.get h3
   have hn:j<args.size:=by
    have:=(zzS.1 h4).1;exact D0
   refine⟨by simp;exact Ac,?_⟩
   exact Ax
  exact Ad
 have hsize:fn.ntmps<=(args++Array.replicate (fn.ntmps-args.size) undef).size:=Ah
 refine(callsIn_wide (n:=0)).1 (callsIn_of_wp_marks hfn hcb trivial ?_ rfl);refine Gn ?_;have hreg:=λK hK=>qhP (ops:=oA) (nt:=fn.ntmps) (ro:=none) (K:=K) (Z0:=Z) (h0:=h) (w0:=w) (ds:=[]) (qcC P) (qfc P) hK oA.toList rsA 0 hA rfl _ h Z w { tmps:=args++Array.replicate (fn.ntmps-args.size) undef,defers:=[] } hV ht hsize rfl r (Kept.refl _ _ _ _)
 rw[List.range_eq_range'];refine hreg _ ?_;intro a0 w0 t0 h0 Z0 hq0 ht0 hs0 hd0' r0' k0';refine Gn ?_;have hreg2:=λK hK=>qhP (ops:=oB) (nt:=fn.ntmps) (ro:=none) (K:=K) (Z0:=Z) (h0:=h) (w0:=w) (ds:=[]) (qcC P) (qfc P) hK oB.toList rsB 0 hB rfl _ h0 Z0 w0 a0 hq0 ht0 hs0 hd0' r0' k0'
 rw[List.range_eq_range'];refine hreg2 _ ?_;intro a1 w1 t1 h1 Z1 hq1 ht1 hs1 hd1 r1 k1;refine Gn ?_;have l2:List.range (#[o0,o1]:Array Oper).size=[0,1]:=rfl;have g0:(#[o0,o1]:Array Oper)[0]?=some o0:=rfl;have g1:(#[o0,o1]:Array Oper)[1]?=some o1:=rfl;rw[l2];simp only[wpOpsIn,g0,qer hf0,if_true];obtain⟨dst,rk,g⟩:=r0;simp only[qqx,zzB]at hr0;obtain⟨⟨hc1,hc2⟩,hc3⟩:=hr0;have hgn:g=none:=by simpa using hg0
 subst hgn;refine qsB (draw:=false) (qcC P) (qfc P) r1 ht1 hc3 hq1 _ _ ?_;intro v v' h2 Z2 w2 p1 p2 r2 k2;obtain⟨t2,q1,ht2⟩:=(ht1.mono (k2.mono r1.dom)).put hs1 hc1 p2 p1;obtain⟨⟨d',cs,q3,q4⟩,q2⟩:=q1;rw[hd0]at q3;cases q3;obtain⟨z1,z2⟩:=ht2 d _ q4;obtain⟨a',c',z3,z4,z5⟩:=z2.un_fn
 have ha':a' = #[]:=by
  generalize hL:a'.toList=L at z3;cases z3<;>grind
 subst ha';generalize hA1:a1.put o0.dst v'=A1 at ht2 z1 z5;have hsA:fn.ntmps<=A1.tmps.size:=by rw[<- hA1,wK];exact Ac
 have hdA:A1.defers=[]:=by rw[<- hA1,wn];exact Ac
 have hev:A1.eval (.tmp d) = .func (.func fd) #[] c':=z5;refine E1 ?_;refine⟨λ_ _=>trivial,?_⟩
 have hsem:(o1.semAt (Fr none).round A1.eval).run P w2 = .ok (.defer { target:=.fn (.func fd) c',args:=#[] }) w2:=qom hdef hev w2;rw[hsem,Oper.uponIn_defer,hdst];have hle:h.sz<=h2.sz:=zzg k1.szle k2.szle;have hw:=qj q2 fn.ntmps c hcode hle none (.inl rfl) Z2 B w2 { A1 with defers:={ target:=.fn (.func fd) c',args:=#[] }::A1.defers } ht2 hsA r2;refine wpIn_mono hw ?_;rintro e a w' ⟨x,t',h',Z',rs,hx,hq,ht',_,hd,hm,hr',hkept⟩;have hkk:Kep h.sz Z B h w Z' h' w':=((k1.trans k2).kep (zzL _)).trans hkept;have hww:w.heap.size<=w2.heap.size:=(k1.trans k2).wle
 have hcod:(callFunc fd (#[]++c')).run P=λw=>.ok (.enter fd (#[]++c')) w:=by
  funext w;have hq:=hquiet;unfold qg1 at hq;split at hq<;>try (cases hq;done)
  grind[qaD]
 exact Aj
end
section
variable [Cur]
variable {P:Program}{h:Hp}
def Rd(P:Program)(f:Nat)(vs:List AV)(bs:List Blk)(v:AV):Prop :=
 jq bs.length vs=true/\clo v=true/\SC P f vs (mkH bs.length bs) (λv' _=>v'=v)
theorem Rd.mk{f:Nat}{i:IFn}{vs:List AV}{v:AV}{bs:List Blk}(hc:qdN P f i=true)(hb:jq bs.length vs=true)(hl:clo v=true)(hV:V P bs.length i.body (xG i.res (λv' _=>v'=v)) (qaS vs 0 .leaf) (mkH bs.length bs)):Rd P f vs bs v :=
 ⟨hb,hl,SC.mk hc (qj hV)⟩
def Rd.sc{f:Nat}{vs:List AV}{bs:List Blk}{v:AV}{k:AV->Hp->Prop}(at':List Nat)(hu:Rd P f vs bs v)(l:Lent ⟨h.sz,0,h.tr⟩ at' bs)(hk:k v h):SC P f (qaX (gAt at' h.sz) vs) h k:=by
 obtain⟨hb,hcl,hu⟩:=hu;refine⟨hu.1,λZ B w args r ha=>?_⟩
 have r0:Rel σ0 Z (λ_=>False) ⟨h.sz,0,h.tr⟩ w:=⟨r.dom,r.cells,r.maps,r.excl,r.exclm,r.app,λ_ _ _ _ h=>h,λ_ h=>h.elim,r.frz,r.dn⟩
 have rs:=r0.small l;have rs':Rel σ0 (Z.small at' h.sz) (low w.heap.size) (mkH bs.length bs) w:=⟨rs.dom,rs.cells,rs.maps,rs.excl,rs.exclm,rs.app,λb L hb hf=>absurd (rs.dom b L hb) (Nat.not_lt.2 hf),λ_ h=>h,rs.frz,rs.dn⟩
 have ha':VRs σ0 (Z.small at' h.sz) vs args.toList:=VRs.nr (Z:=Z) (Zs:=Z.small at' h.sz) (g:=gAt at' h.sz) (m:=bs.length) (λb L hbm hbL=>by
  refine Cq ?_;exact Ac) rfl l.len hb ha
 refine qcb.mono (hu.2 (Z.small at' h.sz) (low w.heap.size) w args rs' ha') ?_;rintro e w1 ⟨v0,v',h1,Z1,rfl,rfl,g2,g3,g4⟩;have hcv:=g2.cr hcl;have f2:∀k a,Z1.frz k=some a->Z.frz k=some a\/w.heap.size<=k:=λk a hk=>(g4.fnew k a hk).imp id Nat.not_lt.1
 exact⟨_,v',h,⟨Z.loc,Z1.frz,Z.n⟩,rfl,hk,(by grind[CR.vr]),r.frz' g4.pres g4.wle g4.frz f2 Dz,
  ⟨λ_ _=>rfl,zzL _,rfl,λ_ _ _=>rfl,Ce,g4.wle,g4.io,g4.frz,λk a hk=>(f2 k a hk).imp id (wJ r.base),zzL _⟩⟩
def Rd.pc{f:Nat}{vs:List AV}{bs:List Blk}{v:AV}{k:AV->Hp->Prop}(at':List Nat)(hu:Rd P f vs bs v)(l:Lent ⟨h.sz,0,h.tr⟩ at' bs)(hk:k v h):PC P f (qaX (gAt at' h.sz) vs) h k :=
 ⟨_,_,λ_ h'=>hu.sc at' l h',hk⟩
end
section
variable [Cur]
variable {P:Program}
mutual
def lkA:AV->AV->Bool
 | .b x,v=>match v with | .b y=>(x&&y)||(!x && !y)|_=>false
 | .i k n,v=>match v with | .i k' m=>Nat.beq (kOf k) (kOf k')&&qF0 n m|_=>false
 | .s x,v=>match v with | .s y=>eqS x y|_=>false
 | .nils,v=>match v with | .nils=>true|_=>false
 | .nilp,v=>match v with | .nilp=>true|_=>false
 | .nilf,v=>match v with | .nilf=>true|_=>false
 | .nili,v=>match v with | .nili=>true|_=>false
 | .nilm,v=>match v with | .nilm=>true|_=>false
 | .agg cs',v=>match v with | .agg cs=>qm1 cs' cs|_=>false
 | .tup cs',v=>match v with | .tup cs=>qm1 cs' cs|_=>false
 | .fz n cs',v=>match v with | .fz m cs=>Nat.beq n m&&qm1 cs' cs|_=>false
 | _,_=>false
def qm1:List AV->List AV->Bool
 | [],vs=>vs.isEmpty
 | v'::vs',vs=>match vs with|v::vs=>lkA v' v&&qm1 vs' vs | []=>false
end
mutual
def qGh:∀(v' v:AV),lkA v' v=true->v'=v
 | .b x,v,hb=>by
  unfold lkA at hb;split at hb<;>first|(cases hb;done)|skip
  rename_i y;have:x=y:=by cases x<;>cases y<;>first|rfl|cases hb
  rw[this]
 | .i k n,v,hb=>by
  unfold lkA at hb;split at hb<;>first|(cases hb;done)|skip
  simp only[zzB]at hb;rw[qtn hb.1,qth hb.2]
 | .s x,v,hb=>by
  unfold lkA at hb;split at hb<;>first|(cases hb;done)|skip
  rw[qs4 hb]
 | .nils,v,hb=>Bl
 | .nilp,v,hb=>Bl
 | .nilf,v,hb=>Bl
 | .nili,v,hb=>Bl
 | .nilm,v,hb=>Bl
 | .agg cs',v,hb=>En
 | .tup cs',v,hb=>En
 | .fz n cs',v,hb=>by
  unfold lkA at hb;split at hb<;>first|(cases hb;done)|skip
  simp only[zzB]at hb;rw[Nat.eq_of_beq_eq_true hb.1,qh8 cs' _ hb.2]
 | .undef,v,hb=>A6
 | .ptr _ _,v,hb=>A6
 | .sl _ _ _ _ _,v,hb=>A6
 | .fn _ _ _,v,hb=>A6
 | .ifc _ _,v,hb=>A6
 | .map _,v,hb=>A6
 | .sym _,v,hb=>A6
 | .pf _ _,v,hb=>A6
 | .e0,v,hb=>A6
 | .own _ _,v,hb=>A6
 | .nz,v,hb=>A6
 | .yl _,v,hb=>A6
 | .lp _,v,hb=>A6
def qh8:∀(vs' vs:List AV),qm1 vs' vs=true->vs'=vs
 | [],vs,hb=>by
  unfold qm1 at hb;have:vs=[]:=by simpa using hb
  rw[this]
 | v'::vs',vs,hb=>by
  unfold qm1 at hb;split at hb<;>first|(cases hb;done)|skip
  simp only[zzB]at hb;rw[qGh v' _ hb.1,qh8 vs' _ hb.2]
end
mutual
def qch(h:Hp):AV->AV->Bool
 | .b x,v=>match v with | .b y=>(x&&y)||(!x && !y)|_=>false
 | .i k n,v=>match v with | .i k' m=>Nat.beq (kOf k) (kOf k')&&qF0 n m|_=>false
 | .s x,v=>match v with | .s y=>eqS x y|_=>false
 | .nils,v=>match v with | .nils=>true|_=>false
 | .nilp,v=>match v with | .nilp=>true|_=>false
 | .nilf,v=>match v with | .nilf=>true|_=>false
 | .nili,v=>match v with | .nili=>true|_=>false
 | .nilm,v=>match v with | .nilm=>true|_=>false
 | .agg cs',v=>match v with | .agg cs=>qfp h cs' cs|_=>false
 | .tup cs',v=>match v with | .tup cs=>qfp h cs' cs|_=>false
 | .fz n cs',v=>match v with
  | .nils=>Nat.beq n 0&&cs'.isEmpty
  | .fz m cs=>Nat.beq n m&&qm1 cs' cs
  | .sl b o m c _=>Nat.beq n m&&Nat.ble m c && !(Nat.beq c 0)&&(match h.tr.get b with|some (.cells _ true _ cs)=>Nat.ble (o+cs'.length) cs.length&&qfp h cs' ((cs.drop o).take cs'.length)|_=>false)
  | .own b m=>Nat.beq n m&&(match h.tr.get b with|some (.cells _ true _ ys)=>(!(Nat.beq m 0)||ys.isEmpty)&&qfp h cs' ys|_=>false)
  | _=>false
 | _,_=>false
def qfp(h:Hp):List AV->List AV->Bool
 | [],vs=>vs.isEmpty
 | v'::vs',vs=>match vs with|v::vs=>qch h v' v&&qfp h vs' vs | []=>false
end
mutual
def qtc{h:Hp}:∀(v' v:AV),qch h v' v=true->Frz h v v'
 | .b x,v,hb=>by
  unfold qch at hb;split at hb<;>first|(cases hb;done)|skip
  rename_i y;have:y=x:=by cases x<;>cases y<;>first|rfl|cases hb
  subst this;exact .b _
 | .i k n,v,hb=>by
  unfold qch at hb;split at hb<;>first|(cases hb;done)|skip
  simp only[zzB]at hb;obtain rfl:=qtn hb.1;obtain rfl:=qth hb.2;exact .i _ _
 | .s x,v,hb=>by
  unfold qch at hb;split at hb<;>first|(cases hb;done)|skip
  obtain rfl:=qs4 hb;exact .s _
 | .nils,v,hb=>by unfold qch at hb;split at hb<;>first|(cases hb;done)|exact .nils
 | .nilp,v,hb=>by unfold qch at hb;split at hb<;>first|(cases hb;done)|exact .nilp
 | .nilf,v,hb=>by unfold qch at hb;split at hb<;>first|(cases hb;done)|exact .nilf
 | .nili,v,hb=>by unfold qch at hb;split at hb<;>first|(cases hb;done)|exact .nili
 | .nilm,v,hb=>by unfold qch at hb;split at hb<;>first|(cases hb;done)|exact .nilm
 | .agg cs',v,hb=>by
  unfold qch at hb;split at hb<;>first|(cases hb;done)|skip
  exact .agg _ _ (qfq cs' _ hb)
 | .tup cs',v,hb=>by
  unfold qch at hb;split at hb<;>first|(cases hb;done)|skip
  exact .tup _ _ (qfq cs' _ hb)
 | .fz n cs',v,hb=>by
  unfold qch at hb;split at hb<;>first|(cases hb;done)|skip
  .simp only[zzB]at hb;obtain rfl:=Nat.eq_of_beq_eq_true hb.1;have:cs'=[]:=by simpa using hb.2
   rw[this];exact .nilz
  .simp only[zzB]at hb;rw[Nat.eq_of_beq_eq_true hb.1,qh8 _ _ hb.2];exact .fz _ _
  .simp only[zzB]at hb;obtain⟨⟨⟨h1,h2⟩,h3⟩,h4⟩:=hb;obtain rfl:=Nat.eq_of_beq_eq_true h1;split at h4<;>first|(cases h4;done)|skip
   rename_i hg;simp only[zzB]at h4;refine .sl _ _ _ _ _ _ _ _ cs'.length _ hg (Nat.le_of_ble_eq_true h2) (Nat.le_of_ble_eq_true h4.1) (λh0=>?_) (qfq cs' _ h4.2)
   subst h0;cases h3
  .simp only[zzB]at hb;obtain⟨h1,h4⟩:=hb;obtain rfl:=Nat.eq_of_beq_eq_true h1;split at h4<;>first|(cases h4;done)|skip
   rename_i hg;simp only[zzB]at h4;refine .own _ _ _ _ _ _ hg (λh0=>?_) (qfq cs' _ h4.2)
   subst h0;simpa using h4.1
 | .undef,v,hb=>A7
 | .ptr _ _,v,hb=>A7
 | .sl _ _ _ _ _,v,hb=>A7
 | .fn _ _ _,v,hb=>A7
 | .ifc _ _,v,hb=>A7
 | .map _,v,hb=>A7
 | .sym _,v,hb=>A7
 | .pf _ _,v,hb=>A7
 | .e0,v,hb=>A7
 | .own _ _,v,hb=>A7
 | .nz,v,hb=>A7
 | .yl _,v,hb=>A7
 | .lp _,v,hb=>A7
def qfq{h:Hp}:∀(vs' vs:List AV),qfp h vs' vs=true->Frzs h vs vs'
 | [],vs,hb=>by
  unfold qfp at hb;have:vs=[]:=by simpa using hb
  rw[this];exact .nil
 | v'::vs',vs,hb=>by
  unfold qfp at hb;split at hb<;>first|(cases hb;done)|skip
  simp only[zzB]at hb;exact .cons _ _ _ _ (qtc v' _ hb.1) (qfq vs' _ hb.2)
end
abbrev qcE:=List (List AV×AV)
def qts(vs:List AV)(l:qcE):Option AV:=List.rec (motive:=λ_=>Option AV) none (λe _ ih=>Bool.rec (motive:=λ_=>Option AV) ih (some e.2) (qm1 e.1.reverse vs.reverse)) l
def qrf{vs:List AV}{v:AV}:∀{l:qcE},qts vs l=some v->(vs,v) ∈ l
 | [],h=>by cases h
 | e::l,h=>by
  have h':(Bool.rec (motive:=λ_=>Option AV) (qts vs l) (some e.2) (qm1 e.1.reverse vs.reverse):Option AV)=some v:=h
  cases he:qm1 e.1.reverse vs.reverse with
  | true =>
   rw[he]at h';have h2:e.2=v:=Option.some.inj h';have h1:=List.reverse_inj.1 (qh8 _ _ he);obtain⟨e1,e2⟩:=e;subst h1 h2;exact .head _
  | false=>rw[he]at h';exact .tail _ (qrf h')
def qD8(L:List (Nat×qcE)):qgM:=λf vs=>List.rec (motive:=λ_=>Option AV) none (λe _ ih=>Bool.rec (motive:=λ_=>Option AV) ih (qts vs e.2) (Nat.beq e.1 f)) L
def qx3:∀{L:List (Nat×qcE)},(∀e ∈ L,∀q ∈ e.2,qa P e.1 q.1 q.2)->qfR P (qD8 L)
 | [],_=>λ_ _ _ h=>by cases h
 | e::L,hL=>λf vs v h=>by
  have h':(Bool.rec (motive:=λ_=>Option AV) (qD8 L f vs) (qts vs e.2) (Nat.beq e.1 f):Option AV)=some v:=h
  cases he:Nat.beq e.1 f with
  | true =>
   rw[he]at h';have e1:=Nat.eq_of_beq_eq_true he;have:=hL e (.head _) _ (qrf h');rw[e1]at this;exact this
  | false=>rw[he]at h';exact qx3 (λe' he'=>hL e' (.tail _ he')) f vs v h'
def qIC{f:Nat}:∀q ∈ ([]:qcE),qa P f q.1 q.2:=λ_ h=>by cases h
def qF7{f:Nat}{e:List AV×AV}{l:qcE}(h:qa P f e.1 e.2)(hl:∀q ∈ l,qa P f q.1 q.2):∀q ∈ e::l,qa P f q.1 q.2:=λq hq=>by
 rcases zzc.1 hq with rfl|hq
 .exact h
 .exact hl q hq
omit [Cur] in
def Gvs.of_frzs{h:Hp}:∀{vs vs':List AV},Frzs h vs vs'->Gvs h vs vs'
 | [],_,hf=>by cases hf;exact .nil
 | v::vs,_,hf=>by
  cases hf with
  | cons _ _ _ _ h1 h2=>exact .fz _ _ _ _ h1 (Gvs.of_frzs h2)
def dbF(h:Hp):Nat->List AV->List (Nat×Blk)
 | 0,_=>[]
 | n+1,vs=>vs.flatMap λv=>match v with
  | .own b _ | .sl b _ _ _ _ | .ptr b _=>(match h.tr.get b with|some (.cells e w a cs)=>(b,.cells e w a cs)::dbF h n cs|_=>[])
  | .agg cs=>dbF h n cs
  | .tup cs=>dbF h n cs
  | _=>[]
omit [Cur] in
def qlV{h:Hp}:∀{n:Nat}{vs:List AV},∀p ∈ dbF h n vs,h.tr.get p.1=some p.2
 | 0,_,p,hp=>by cases hp
 | n+1,vs,p,hp=>by
  unfold dbF at hp;obtain⟨v,_,hp⟩:=List.mem_flatMap.1 hp;split at hp
  case h_1 b _|h_2 b _ _ _ _|h_3 b _ =>
   split at hp
   .rename_i hg;rcases zzc.1 hp with rfl|hp
    .exact hg
    .exact qlV p hp
   .cases hp
  .exact qlV p hp
  .exact qlV p hp
  .cases hp
def qra(l:List (Nat×Blk)):Hp->(Hp->Prop)->Prop :=
 List.rec (motive:=λ_=>Hp->(Hp->Prop)->Prop) (λh k=>k h) (λp _ ih h k=>jG h p.1 .dead (λh'=>ih h' k)) l
omit [Cur] in
def qfy:∀{l:List (Nat×Blk)}{h:Hp}{k:Hp->Prop},qra l h k↔(∀p ∈ l,h.fl<=p.1)/\k (qd6 h l)
 | [],h,k=>⟨λhk=>⟨λ_ hp=>(by cases hp),hk⟩,λhk=>hk.2⟩
 | p::l,h,k=>by
  show jG h p.1 .dead (λh'=>qra l h' k)↔_
  rw[xb,qfy];show h.fl<=p.1/\(∀q ∈ l,h.fl<=q.1)/\k (qd6 (h.put p.1 .dead) l)↔_;simp only[List.forall_mem_cons,and_assoc];exact Bm
def qoh(L:qcE)(vs:List AV)(h:Hp)(k:AV->Hp->Prop)(els:Prop):Prop :=
 List.rec (motive:=λ_=>Prop) els (λe _ ih=>Bool.rec (motive:=λ_=>Prop) ih (qra (dbF h 4 vs) h (k e.2)) (qfp ⟨h.sz,h.fl,trP (dbF h 4 vs)⟩ e.1 vs)) L
def qlm{f:Nat}{vs:List AV}{h:Hp}{k:AV->Hp->Prop}{els:Prop}(he:els->SC P f vs h k):∀{L:qcE},(∀q ∈ L,qa P f q.1 q.2)->qoh L vs h k els->SC P f vs h k
 | [],_,hk=>he hk
 | e::L,hL,hk=>by
  have hk':(Bool.rec (motive:=λ_=>Prop) (qoh L vs h k els) (qra (dbF h 4 vs) h (k e.2)) (qfp ⟨h.sz,h.fl,trP (dbF h 4 vs)⟩ e.1 vs):Prop):=hk
  cases hb:qfp ⟨h.sz,h.fl,trP (dbF h 4 vs)⟩ e.1 vs with
  | false=>rw[hb]at hk';exact qlm he (λq hq=>hL q (.tail _ hq)) hk'
  | true =>
   rw[hb]at hk';obtain⟨h1,h2⟩:=qfy.1 hk';exact SC.give _ (λp hp=>⟨qlV p hp,h1 p hp⟩) (Gvs.of_frzs (qfq _ _ hb)) (hL e (.head _) _ _ h2)
omit [Cur] in
def qBR{L:qcE}{vs:List AV}{h:Hp}{F:(AV->Hp->Prop)->Prop}(hF:L2 F):L2 (λk=>qoh L vs h k (F k)):=by
 induction L with
 | nil=>exact hF
 | cons e L ih =>
  show L2 (λk=>(Bool.rec (motive:=λ_=>Prop) (qoh L vs h k (F k)) (qra (dbF h 4 vs) h (k e.2)) (qfp ⟨h.sz,h.fl,trP (dbF h 4 vs)⟩ e.1 vs):Prop))
  cases qfp ⟨h.sz,h.fl,trP (dbF h 4 vs)⟩ e.1 vs with
  | false=>exact ih
  | true=>exact λk hk=>⟨_,_,(qfy.1 hk).2,λk' hk'=>qfy.2 ⟨(qfy.1 hk).1,hk'⟩⟩
structure HookG where
 a:qgM
 g:Nat->qcE
structure HookGOk (P:Program) (ho:HookG):Prop where
 a:qfR P ho.a
 g:∀f,∀q ∈ ho.g f,qa P f q.1 q.2
def qsV(env:Tr IFn)(ho:HookG)(ih:qc4)(f:Nat)(args:List AV)(h:Hp)(k:AV->Hp->Prop):Prop :=
 Option.rec (motive:=λ_=>Prop) (qoh (ho.g f) args h k (qg0 env ih f args h k)) (λv=>k v h) (ho.a f args)
omit [Cur] in
def qBa(env:Tr IFn)(ho:HookG){ih:qc4}(hi:LB ih):LC (qsV env ho ih):=by
 intro f vs h;show L2 (λk=>(Option.rec (motive:=λ_=>Prop) (qoh (ho.g f) vs h k (qg0 env ih f vs h k)) (λv=>k v h) (ho.a f vs):Prop))
 cases ho.a f vs with
 | none=>exact qBR (qms env hi f vs h)
 | some v=>exact Fs
def gvL(L:List (Nat×qcE))(f:Nat):qcE:=List.rec (motive:=λ_=>qcE) [] (λe _ ih=>Bool.rec (motive:=λ_=>qcE) ih e.2 (Nat.beq e.1 f)) L
def qLM{L:List (Nat×qcE)}(hL:∀e ∈ L,∀q ∈ e.2,qa P e.1 q.1 q.2):∀f,∀q ∈ gvL L f,qa P f q.1 q.2:=by
 induction L with
 | nil=>intro f q hq;cases hq
 | cons e L ih =>
  intro f q hq;have hq':q ∈ (Bool.rec (motive:=λ_=>qcE) (gvL L f) e.2 (Nat.beq e.1 f):qcE):=hq
  cases he:Nat.beq e.1 f with
  | false=>rw[he]at hq';exact ih (λe' h'=>hL e' (.tail _ h')) f q hq'
  | true =>
   rw[he]at hq';have e1:=Nat.eq_of_beq_eq_true he;subst e1;exact hL e (.head _) q hq'
abbrev qb8:=Nat->Option (List Nat×ICode×ICode)
def tpl(j:Nat)(s:LoopState)(p:Option Code):Loop:={ state:=s,pending:=p,fn:=0,tmps:=#[],params:=#[],assign:=.goto j,body:=.skip,defers:=0 }
def qcc.tpl{j:Nat}{r q:Loop}(hr:r.assign = .goto j)(h:qcc r q)(s:LoopState)(p:Option Code):qcc (Go.Kc.tpl j s p) { q with state:=s,pending:=p }:=by
 rcases h with⟨_,h0⟩|⟨j',h1,h2,_,_⟩
 .exact absurd hr (h0 j)
 .rw[hr]at h1;cases h1;exact .inr ⟨j,rfl,Cur.st s p h2,rfl,rfl⟩
def qm3(t:Tr AV):Nat->Nat->List (Nat×AV)->(List (Nat×AV)->Prop)->Prop :=
 Tr.rec (motive:=λ_=>Nat->Nat->List (Nat×AV)->(List (Nat×AV)->Prop)->Prop) (λ_ _ acc k=>k acc)
  (λv _ _ gl gr a m acc k=>qq (Nat.add a m) (λa1=>qq (Nat.add a1 m) (λa2=>qq (Nat.add m m) (λm2 =>
   Option.rec (motive:=λ_=>Prop) (gl a1 m2 acc (λacc=>gr a2 m2 acc k)) (λx=>gl a1 m2 ((a,x)::acc) (λacc=>gr a2 m2 acc k)) v)))) t
omit [Cur] in
def qot{v:Option AV}{l r:Tr AV}{a m:Nat}{acc:List (Nat×AV)}{k:List (Nat×AV)->Prop}:qm3 (.node v l r) a m acc k=qm3 l (a+m) (m+m) (v.elim acc λx=>(a,x)::acc) (λacc=>qm3 r (a+m+m) (m+m) acc k):=by
 have e:qm3 (.node v l r) a m acc k=qq (Nat.add a m) (λa1=>qq (Nat.add a1 m) (λa2=>qq (Nat.add m m) (λm2 =>
   Option.rec (motive:=λ_=>Prop) (qm3 l a1 m2 acc (λacc=>qm3 r a2 m2 acc k)) (λx=>qm3 l a1 m2 ((a,x)::acc) (λacc=>qm3 r a2 m2 acc k)) v))):=rfl
 rw[e,qy,qy,qy];cases v<;>rfl
omit [Cur] in
def qkh:∀(t:Tr AV) (a m:Nat) (acc:List (Nat×AV)) (k:List (Nat×AV)->Prop),qm3 t a m acc k->∃l,k l/\(∀p ∈ l,p ∈ acc\/∃n,p.1=a+m*n/\t.get n=some p.2)/\∀k':List (Nat×AV)->Prop,k' l->qm3 t a m acc k'
 | .leaf,_,_,acc,_,hk=>⟨acc,hk,λ_ hp=>.inl hp,λ_ hk'=>hk'⟩
 | .node v l r,a,m,acc,k,hk=>by
  rw[qot]at hk;obtain⟨l1,h1,h2,h3⟩:=qkh l _ _ _ _ hk;obtain⟨l2,h4,h5,h6⟩:=qkh r _ _ _ _ h1;refine⟨l2,h4,λp hp=>?_,λk' hk'=>?_⟩
  .rcases h5 p hp with hp|⟨n,e1,e2⟩
   .rcases h2 p hp with hp|⟨n,e1,e2⟩
    .cases v with
     | none=>exact .inl hp
     | some x =>
      rcases zzc.1 hp with rfl|hp
      .exact .inr ⟨0,by simp,by rw[Tr.get_node]⟩
      .exact .inl hp
    .refine .inr ⟨2*n+1,by rw[e1,Nat.mul_add,zzU,Nat.mul_left_comm,Nat.add_mul];exact Ac,?_⟩
     rw[Tr.get_node];show(if 2*n % 2=0 then l.get (2*n / 2)else r.get (2*n / 2))=_
     rw[if_pos Ac,show 2*n / 2=n from Ac];exact e2
   .refine .inr ⟨2*n+2,by rw[e1,Nat.mul_add,Nat.mul_left_comm,Nat.add_mul];exact Ac,?_⟩
    rw[Tr.get_node];show(if(2*n+1) % 2=0 then l.get ((2*n+1) / 2)else r.get ((2*n+1) / 2))=_
    rw[if_neg Ac,show(2*n+1) / 2=n from Ac];exact e2
  .rw[qot];exact h3 _ (h6 _ hk')
def qBv(es:List (AV×AV)):(List (Nat×AV)->Prop)->Prop :=
 List.rec (motive:=λ_=>(List (Nat×AV)->Prop)->Prop) (λk=>k []) (λe _ ih k=>match e.1 with
  | .i .i64 (.ofNat n)=>ih (λts=>k ((n,e.2)::ts))
  | _=>False) es
omit [Cur] in
def qqB:∀(es:List (AV×AV)) (k:List (Nat×AV)->Prop),qBv es k->∃ts,k ts/\es=ts.map (λp=>(.i .i64 (Int.ofNat p.1),p.2))/\∀k':List (Nat×AV)->Prop,k' ts->qBv es k'
 | [],k,hk=>⟨[],hk,rfl,λ_ h=>h⟩
 | (.i .i64 (.ofNat n),e2)::es,k,hk=>by
  have hk':qBv es (λts=>k ((n,e2)::ts)):=hk
  obtain⟨ts,h1,h2,h3⟩:=qqB es _ hk';exact⟨(n,e2)::ts,h1,by rw[h2];rfl,λk' h'=>h3 (λts=>k' ((n,e2)::ts)) h'⟩
def qsv(h:Hp)(b:Nat)(k:Loop->List (Nat×AV)->Prop):Prop :=
 h.tr.getK b (λx=>Blk.rec (motive:=λ_=>Prop) (λ_ _ _ _=>False) False (λes=>List.rec (motive:=λ_=>Prop) False (λe rest _=>match e.1 with
  | .lp r=>(match e.2 with | .undef=>qBv rest (λts=>k r ts)|_=>False)
  | _=>False) es) x)
omit [Cur] in
def qfL{h:Hp}{b:Nat}{k:Loop->List (Nat×AV)->Prop}(hk:qsv h b k):∃r ts,h.tr.get b=some (.map (zu r ts))/\k r ts/\∀k',k' r ts->qsv h b k':=by
 obtain⟨x,h1,h2⟩:=(Tr.getK_iff _ _ _).1 hk;cases x with
 | cells _ _ _ _=>exact Fk
 | dead=>exact Fk
 | map es =>
  cases es with
  | nil=>exact Fk
  | cons e rest =>
   obtain⟨e1,e2⟩:=e;cases e1<;>try exact(h2:False).elim
   rename_i r;cases e2<;>try exact(h2:False).elim
   obtain⟨ts,g1,g2,g3⟩:=qqB rest _ h2;exact⟨r,ts,by rw[h1,g2];rfl,g1,λk' h'=>(Tr.getK_iff _ _ _).2 ⟨_,h1,g3 _ h'⟩⟩
def qow(c:Code)(k:Nat->Prop):Prop:=match c with
 | .goto j=>k j
 | _=>False
omit [Cur] in
def qia{c:Code}{k:Nat->Prop}(hk:qow c k):∃j,c = .goto j/\k j:=by
 unfold qow at hk;split at hk
 .exact⟨_,rfl,hk⟩
 .exact Gy
def qpN(s:LoopState)(p:Prop):Prop:=match s with
 | .ready=>p
 | _=>False
omit [Cur] in
def qsu{s:LoopState}{p:Prop}(hk:qpN s p):s = .ready/\p:=by
 unfold qpN at hk;split at hk
 .exact⟨rfl,hk⟩
 .exact Gy
def qsY(s:LoopState)(p:Prop):Prop:=match s with
 | .busy=>False
 | _=>p
omit [Cur] in
def qn6{s:LoopState}{p:Prop}(hk:qsY s p):s≠.busy/\p:=by
 unfold qsY at hk;split at hk
 .exact Gy
 .rename_i h;exact⟨λe=>h e,hk⟩
def qzW(s:Option (List Nat×ICode×ICode))(k:List Nat->ICode->ICode->Prop):Prop:=match s with
 | some (ps,x,y)=>k ps x y
 | none=>False
omit [Cur] in
def qvU{s:Option (List Nat×ICode×ICode)}{k:List Nat->ICode->ICode->Prop}(hk:qzW s k):∃ps x y,s=some (ps,x,y)/\k ps x y:=by
 unfold qzW at hk;split at hk
 .exact⟨_,_,_,rfl,hk⟩
 .exact Gy
def qGB(ts:List (Nat×AV)):(Tr AV->Prop)->Prop :=
 List.rec (motive:=λ_=>(Tr AV->Prop)->Prop) (λk=>k .leaf) (λp _ ih k=>ih (λt=>t.setK p.1 p.2 k)) ts
omit [Cur] in
def qkj:∀{ts:List (Nat×AV)}{k:Tr AV->Prop},qGB ts k↔k (mkT ts)
 | [],_=>Iff.rfl
 | p::ts,k=>by
  show qGB ts (λt=>t.setK p.1 p.2 k)↔_
  rw[qkj,Tr.setK_iff];rfl
def qrt(ps:List Nat):List AV->Tr AV->(Tr AV->Prop)->Prop :=
 List.rec (motive:=λ_=>List AV->Tr AV->(Tr AV->Prop)->Prop) (λ_ t k=>k t) (λp _ ih us t k=>List.rec (motive:=λ_=>Prop) False (λu us _=>t.setK p u (λt=>ih us t k)) us) ps
omit [Cur] in
def qif:∀{ps:List Nat}{us:List AV}{t:Tr AV}{k:Tr AV->Prop},qrt ps us t k->k (qkp ps us t)/\∀k':Tr AV->Prop,k' (qkp ps us t)->qrt ps us t k'
 | [],us,t,k,hk=>by cases us<;>exact⟨hk,λ_ h=>h⟩
 | p::ps,us,t,k,hk=>by
  cases us with
  | nil=>exact(hk:False).elim
  | cons u us =>
   have hk':t.setK p u (λt=>qrt ps us t k):=hk
   rw[Tr.setK_iff]at hk';obtain⟨h1,h2⟩:=qif hk';refine⟨h1,λk' h'=>?_⟩
   show t.setK p u (λt=>qrt ps us t k')
   rw[Tr.setK_iff];exact h2 k' h'
def qET(xs ys:List AV):(List AV->Prop)->Prop:=List.rec (motive:=λ_=>(List AV->Prop)->Prop) (λk=>k ys) (λx _ ih k=>ih (λl=>k (x::l))) xs
omit [Cur] in
def qjC:∀{xs ys:List AV}{k:List AV->Prop},qET xs ys k↔k (xs++ys)
 | [],_,_=>Iff.rfl
 | x::xs,ys,k=>by
  show qET xs ys (λl=>k (x::l))↔_
  rw[qjC];rfl
def ylR(lc:qb8)(ih:qc4)(b:Nat)(us:List AV)(h:Hp)(k:AV->Hp->Prop):Prop :=
 qsv h b (λr ts=>qow r.assign (λj=>qzW (lc j) (λps ai bi=>qn (and (Nat.ble h.fl b) (and (Nat.ble (Nat.succ b) h.sz) (Nat.beq ps.length us.length)))
  (qGB ts (λt=>qrt ps us t (λt=>ih ai (λe t1 h1=>X.rec (motive:=λ_=>Prop)
   (qsv h1 b (λr1 ts1=>qow r1.assign (λj1=>qpN r1.state (jG h1 b (.map (zu (tpl j1 .busy r1.pending) ts1)) (λh2=>ih bi (λe t3 h3 =>
    qsv h3 b (λr3 ts3=>qow r3.assign (λj3=>X.rec (motive:=λ_=>Prop)
     (jG h3 b (.map (zu (tpl j3 .ready none) ts3)) (λh4=>k (.b true) h4))
     (λid=>jG h3 b (.map (zu (tpl j3 .done (some (.exit id))) ts3)) (λh4=>k (.b false) h4))
     (jG h3 b (.map (zu (tpl j3 .done (some .ret)) ts3)) (λh4=>k (.b false) h4)) e))) t1 h2)))))
   (λ_=>False) False e) t h))))))
def qlg(env:Tr IFn)(ho:HookG)(lc:qb8)(ih:qc4):zA:=λf args h k=>Nat.rec (motive:=λ_=>Prop)
 (match args with | .yl b::us=>ylR lc ih b us h k|_=>False) (λf _=>qsV env ho ih f args h k) f
def qs6(Q:X->Tr AV->Hp->Prop)(t:Tr AV)(p:Option Code)(h':Hp):Prop:=match p with
 | none=>Q .normal t h'
 | some .ret=>Q .ret t h'
 | some (.exit id)=>Q (.exit id) t h'
 | _=>False
def qs3(b:Nat)(Q:X->Tr AV->Hp->Prop)(t:Tr AV)(h:Hp):Prop :=
 qsv h b (λr _=>qsY r.state (jG h b .dead (λh'=>qs6 Q t r.pending h')))
def rfR(env:Tr IFn)(ih:qc4)(j:Nat)(t:Tr AV)(h:Hp)(Q:X->Tr AV->Hp->Prop)(g:AV):Prop:=match g with
 | .fn f first cap=>qn (Nat.ble h.fl h.sz) (qm3 t 0 1 [] (λts=>qET first (.yl h.sz::cap) (λargs=>x6 h (.map (zu (tpl j .ready none) ts)) (λb h'=>qg0 env ih f args h' (λ_ h''=>qs3 b Q t h'')))))
 | _=>False
def fr(env:Tr IFn)(ho:HookG)(lc:qb8)(n:Nat):qc4 :=
 Nat.rec (motive:=λ_=>qc4) (λ_ _ _ _=>False) (λ_ ih c Q t h=>match c with
  | .skip=>Q .normal t h
  | .reg draw ops=>qel qB draw (qlg env ho lc ih) ops (λt h=>Q .normal t h) t h
  | .rangeF j g _ _ _=>evK t g (λv=>rfR env ih j t h Q v)
  | .seq x y=>ih x (λe t h=>X.rec (motive:=λ_=>Prop) (ih y Q t h) (λid=>Q (.exit id) t h) (Q .ret t h) e) t h
  | .cond c x y=>evK t c (λv=>unB v (λb=>Bool.rec (motive:=λ_=>Prop) (ih y Q t h) (ih x Q t h) b))
  | .blk id x=>ih x (λe t h=>X.rec (motive:=λ_=>Prop) (Q .normal t h) (λid'=>Bool.rec (motive:=λ_=>Prop) (Q (.exit id') t h) (Q .normal t h) (Nat.beq id' id)) (Q .ret t h) e) t h
  | .loop x=>ih x (λe t h=>X.rec (motive:=λ_=>Prop) (ih (.loop x) Q t h) (λid=>Q (.exit id) t h) (Q .ret t h) e) t h
  | .exit id=>Q (.exit id) t h
  | .ret=>Q .ret t h
  | .no=>False
  | .cut x=>ih x Q t h) n
omit [Cur] in
def qsw(h:Hp)(b:Nat):L2 (qsv h b):=λ_ hk=>by
 obtain⟨r,ts,_,h2,h3⟩:=qfL hk;exact⟨r,ts,h2,h3⟩
omit [Cur] in
def qpA(c:Code):L1 (qow c):=λk hk=>by
 obtain⟨j,rfl,h⟩:=qia hk;exact⟨j,h,λ_ h=>h⟩
omit [Cur] in
def qzG{α β:Type}(s:LoopState){F:(α->β->Prop)->Prop}(hF:L2 F):L2 (λk=>qpN s (F k)):=by
 cases s<;>first|exact hF|exact L2.no
omit [Cur] in
def LB.l2{ih:qc4}(hi:LB ih){α β:Type}(c:ICode)(t:Tr AV)(h:Hp){F:X->Tr AV->Hp->(α->β->Prop)->Prop}(hF:∀e t h,L2 (F e t h)):L2 (λk=>ih c (λe t h=>F e t h k) t h):=λk hk=>by
 obtain⟨e,t',h',h1,h2⟩:=hi _ _ _ _ hk;obtain⟨x,y,h3,h4⟩:=hF e t' h' _ h1;exact⟨x,y,h3,λk' hk'=>h2 _ (h4 k' hk')⟩
def qK4(lc:qb8){ih:qc4}(hi:LB ih)(b:Nat)(us:List AV)(h:Hp):L2 (ylR lc ih b us h):=by
 unfold ylR;refine L2.b2 (qsw h b) λr ts=>L1.b2 (qpA _) λj=>?_
 cases hl:lc j with
 | none=>exact L2.no
 | some x =>
  obtain⟨ps,ai,bi⟩:=x;refine L2.wh _ (L1.b2 (λk hk=>⟨mkT ts,qkj.1 hk,λk' hk'=>qkj.2 hk'⟩) λt=>L1.b2 (λk hk=>⟨_,(qif hk).1,(qif hk).2⟩) λt=>hi.l2 ai t h λe t1 h1=>?_)
  cases e with
  | exit id=>exact L2.no
  | ret=>exact L2.no
  | normal =>
   refine L2.b2 (qsw h1 b) λr1 ts1=>L1.b2 (qpA _) λj1=>qzG _ (L1.b2 (qe5 h1 b _) λh2=>hi.l2 bi t1 h2 λe t3 h3=>L2.b2 (qsw h3 b) λr3 ts3=>L1.b2 (qpA _) λj3=>?_)
   cases e with
   | normal=>exact Gd
   | exit id=>exact Gd
   | ret=>exact Gd
def qfW(env:Tr IFn)(ho:HookG)(lc:qb8){ih:qc4}(hi:LB ih):LC (qlg env ho lc ih):=by
 intro f vs h;cases f with
 | succ f=>exact qBa env ho hi f vs h
 | zero =>
  cases vs with
  | nil=>exact L2.no
  | cons v us =>
   cases v<;>first|exact L2.no|exact qK4 lc hi _ us h
omit [Cur] in
def quV{b:Nat}{Q:X->Tr AV->Hp->Prop}{t:Tr AV}{h:Hp}(hk:qs3 b Q t h):∃e h',Q e t h'/\∀Q',Q' e t h'->qs3 b Q' t h:=by
 obtain⟨r,ts,h1,h2,h3⟩:=qfL hk;obtain⟨g1,g2⟩:=qn6 h2;obtain⟨g3,g4⟩:=(xb _ _ _ _).1 g2
 have back:∀Q':X->Tr AV->Hp->Prop,qs6 Q' t r.pending (h.put b .dead)->qs3 b Q' t h:=λQ' hq=>by
  refine h3 _ ?_;show qsY r.state (jG h b .dead (λh'=>qs6 Q' t r.pending h'))
  have hp:=(xb h b .dead (λh'=>qs6 Q' t r.pending h')).2 ⟨g3,hq⟩
  cases hs:r.state<;>first|exact absurd hs g1|exact hp
 cases hp:r.pending with
 | none =>
  rw[hp]at g4;exact⟨.normal,_,g4,λQ' hq=>back Q' (by rw[hp];exact hq)⟩
 | some c =>
  rw[hp]at g4;cases c<;>first|exact(g4:False).elim|skip
  .exact⟨.exit _,_,g4,λQ' hq=>back Q' (by rw[hp];exact hq)⟩
  .exact⟨.ret,_,g4,λQ' hq=>back Q' (by rw[hp];exact hq)⟩
omit [Cur] in
def qDc(env:Tr IFn){ih:qc4}(hi:LB ih){j:Nat}{t:Tr AV}{h:Hp}{Q:X->Tr AV->Hp->Prop}{g:AV}(hk:rfR env ih j t h Q g):∃e h',Q e t h'/\∀Q',Q' e t h'->rfR env ih j t h Q' g:=by
 cases g<;>try exact(hk:False).elim
 rename_i f first cap
 obtain⟨g3,g4⟩:=(qc _ _).1 hk;obtain⟨ts,g5,_,g7⟩:=qkh t 0 1 [] _ g4;rw[qjC,zD]at g5;obtain⟨v,h',q1,q2⟩:=qms env hi _ _ _ _ g5;obtain⟨e,h'',q3,q4⟩:=quV q1;refine⟨e,h'',q3,λQ' hQ=>(qc _ _).2 ⟨g3,g7 _ ?_⟩⟩
 rw[qjC,zD];exact q2 _ (q4 Q' hQ)
def qsd(env:Tr IFn)(ho:HookG)(lc:qb8):∀n,LB (fr env ho lc n)
 | 0=>λ_ _ _ _ h=>h.elim
 | n+1=>λc Q t h hk=>by
  have ih:=qsd env ho lc n;cases c with
  | no=>exact Gy
  | rangeF j g ps x y =>
   obtain⟨v,g1,g2⟩:=qw t g _ hk;obtain⟨e,h',q1,q2⟩:=qDc env ih g1;exact⟨e,t,h',q1,λQ' hQ=>g2 _ (q2 Q' hQ)⟩
  | cut x=>exact ih _ _ _ _ hk
  | skip=>exact Ed
  | exit id=>exact Ed
  | ret=>exact Ed
  | reg draw ops =>
   obtain⟨t',h',h1,h2⟩:=qgh qB draw (qfW env ho lc ih) ops t h _ hk;exact H2
  | seq x y =>
   obtain⟨e,t1,h1,g1,g2⟩:=ih _ _ _ _ hk;cases e with
   | normal =>
    obtain⟨e2,t2,h2,g3,g4⟩:=ih _ _ _ _ g1;exact⟨e2,t2,h2,g3,λQ' hQ=>g2 (λe t h=>X.rec (motive:=λ_=>Prop) (fr env ho lc n y Q' t h) (λid=>Q' (.exit id) t h) (Q' .ret t h) e) (g4 _ hQ)⟩
   | exit id=>exact C4
   | ret=>exact C4
  | cond c x y =>
   obtain⟨v,g1,g2⟩:=qw t c _ hk;obtain⟨b,g3,g4⟩:=qhS v _ g1;cases b with
   | true =>
    exact Ba
   | false =>
    exact Ba
  | blk id x =>
   exact Ag
  | loop x =>
   obtain⟨e,t1,h1,g1,g2⟩:=ih _ _ _ _ hk;cases e with
   | normal =>
    obtain⟨e2,t2,h2,g3,g4⟩:=ih _ _ _ _ g1;exact⟨e2,t2,h2,g3,λQ' hQ=>g2 (λe t h=>X.rec (motive:=λ_=>Prop) (fr env ho lc n (.loop x) Q' t h) (λid=>Q' (.exit id) t h) (Q' .ret t h) e) (g4 _ hQ)⟩
   | exit id=>exact Cr
   | ret=>exact Cr
def SR(P:Program)(rs:List ROp)(Q:Tr AV->Hp->Prop)(t:Tr AV)(h:Hp):Prop:=∃C,qby P σ0 C/\qel qB false C rs Q t h
def SDf(P:Program)(n fd:Nat):ICode->(X->Tr AV->Hp->Prop)->Tr AV->Hp->Prop
 | .seq (.reg _ rsA) (.seq (.reg _ rsB) (.seq (.reg _ (r0::_)) y)),Q,t,h=>SR P rsA (λt h=>SR P rsB (λt h=>SR P [r0] (λt h=>ql1 fd r0 t/\S P n y Q t h) t h) t h) t h
 | _,_,_,_=>False
def SC.mkDS{f fd:Nat}{i:IFn}{vs:List AV}{h:Hp}{k:AV->Hp->Prop}(hc:qdO P f fd i=true)(hV:SDf P h.sz fd i.body (xG i.res k) (qaS vs 0 .leaf) h):SC P f vs h k:=by
 unfold qdO at hc;simp only[zzB]at hc;obtain⟨hquiet,hc⟩:=hc;split at hc<;>try (cases hc;done)
 rename_i rsA rsB r0 rest y hbody;rw[hbody]at hV;split at hc<;>try (cases hc;done)
 rename_i fn hfn;simp only[zzB,bne_iff_ne]at hc;obtain⟨⟨hname,hc⟩,hres⟩:=hc;split at hc<;>try (cases hc;done)
 rename_i iA oA iB oB iD oD c hcb;simp only[zzB]at hc;obtain⟨⟨⟨hA,hB⟩,hD⟩,hcode⟩:=hc;split at hD<;>try (cases hD;done)
 rename_i o0 o1 d hl hd0;simp only[zzB]at hD;obtain⟨⟨⟨⟨⟨hr0,hg0⟩,hf0⟩,hf1⟩,hdef⟩,hdst⟩:=hD;have sD:oD = #[o0,o1]:=by rw[<- Array.toList_inj];exact hl
 subst sD;have hdst:o1.dst=none:=by simpa using hdst
 refine⟨trivial,λZ B w args r ha=>.inl ⟨⟨fn,hfn,hname,Hq⟩,?_⟩⟩
 have r00:=r
 have ht:TR σ0 Z (qaS vs 0 .leaf) (args++Array.replicate (fn.ntmps-args.size) undef):=by
  intro j v hv;rcases qhX _ _ _ _ _ hv with⟨_,h3⟩|h3
  .simp only[Nat.sub_zero]at h3;obtain⟨v',h4,h5⟩:=ha.get h3
   have hn:j<args.size:=by
    have:=(zzS.1 h4).1;exact D0
   refine⟨by simp;exact Ac,?_⟩
   exact Ax
  .simp at h3
 have hsize:fn.ntmps<=(args++Array.replicate (fn.ntmps-args.size) undef).size:=by simp;exact Ac
 refine(callsIn_wide (n:=0)).1 (callsIn_of_wp_marks hfn hcb trivial ?_ rfl);obtain⟨CA,hCA,hV⟩:=hV;refine Gn ?_;have hreg:=λK hK=>qhP (ops:=oA) (nt:=fn.ntmps) (ro:=none) (K:=K) (Z0:=Z) (h0:=h) (w0:=w) (ds:=[]) (qcC P) hCA hK oA.toList rsA 0 hA rfl _ h Z w { tmps:=args++Array.replicate (fn.ntmps-args.size) undef,defers:=[] } hV ht hsize rfl r (Kept.refl _ _ _ _)
 rw[List.range_eq_range'];refine hreg _ ?_;intro a0 w0 t0 h0 Z0 hq0 ht0 hs0 hd0' r0' k0';obtain⟨CB,hCB,hq0⟩:=hq0;refine Gn ?_;have hreg2:=λK hK=>qhP (ops:=oB) (nt:=fn.ntmps) (ro:=none) (K:=K) (Z0:=Z) (h0:=h) (w0:=w) (ds:=[]) (qcC P) hCB hK oB.toList rsB 0 hB rfl _ h0 Z0 w0 a0 hq0 ht0 hs0 hd0' r0' k0'
 rw[List.range_eq_range'];refine hreg2 _ ?_;intro a1 w1 t1 h1 Z1 hq1 ht1 hs1 hd1 r1 k1;refine Gn ?_;have l2:List.range (#[o0,o1]:Array Oper).size=[0,1]:=rfl;have g0:(#[o0,o1]:Array Oper)[0]?=some o0:=rfl;have g1:(#[o0,o1]:Array Oper)[1]?=some o1:=rfl;rw[l2];simp only[wpOpsIn,g0,qer hf0,if_true];obtain⟨dst,rk,g⟩:=r0;simp only[qqx,zzB]at hr0;obtain⟨⟨hc1,hc2⟩,hc3⟩:=hr0;have hgn:g=none:=by simpa using hg0
 subst hgn;obtain⟨CD,hCD,hq1⟩:=hq1;refine qsB (draw:=false) (qcC P) hCD r1 ht1 hc3 hq1 _ _ ?_;intro v v' h2 Z2 w2 p1 p2 r2 k2;obtain⟨t2,q1,ht2⟩:=(ht1.mono (k2.mono r1.dom)).put hs1 hc1 p2 p1;obtain⟨⟨d',cs,q3,q4⟩,q2⟩:=q1;rw[hd0]at q3;cases q3;obtain⟨z1,z2⟩:=ht2 d _ q4;obtain⟨a',c',z3,z4,z5⟩:=z2.un_fn
 have ha':a' = #[]:=by
  generalize hL:a'.toList=L at z3;cases z3;rw[<- Array.toList_inj,hL]
 subst ha';generalize hA1:a1.put o0.dst v'=A1 at ht2 z1 z5;have hsA:fn.ntmps<=A1.tmps.size:=by rw[<- hA1,wK];exact hs1
 have hdA:A1.defers=[]:=by rw[<- hA1,wn];exact hd1
 have hev:A1.eval (.tmp d) = .func (.func fd) #[] c':=z5;refine E1 ?_;refine⟨λ_ _=>trivial,?_⟩
 have hsem:(o1.semAt (Fr none).round A1.eval).run P w2 = .ok (.defer { target:=.fn (.func fd) c',args:=#[] }) w2:=qom hdef hev w2;rw[hsem,Oper.uponIn_defer,hdst];have hle:h.sz<=h2.sz:=zzg k1.szle k2.szle;have hw:=q2 fn.ntmps c hcode hle none (.inl rfl) Z2 B w2 { A1 with defers:={ target:=.fn (.func fd) c',args:=#[] }::A1.defers } ht2 hsA r2;refine wpIn_mono hw ?_;rintro e a w' ⟨x,t',h',Z',rs,hx,hq,ht',_,hd,hm,hr',hkept⟩;have hkk:Kep h.sz Z B h w Z' h' w':=((k1.trans k2).kep (zzL _)).trans hkept;have hww:w.heap.size<=w2.heap.size:=(k1.trans k2).wle
 have hcod:(callFunc fd (#[]++c')).run P=λw=>.ok (.enter fd (#[]++c')) w:=by
  funext w;have hq:=hquiet;unfold qg1 at hq;split at hq<;>try (cases hq;done)
  rename_i fn' hfn';simp only[zzB,bne_iff_ne]at hq;obtain⟨⟨q5,_⟩,q6⟩:=hq;split at q6<;>try (cases q6;done)
  rename_i cc hcc;exact qaD hfn' q5 (by rw[hcc];rfl) _ w
 exact Aj
def xB(lc:qb8):ICode->Prop
 | .seq x y=>xB lc x/\xB lc y
 | .cond _ x y=>xB lc x/\xB lc y
 | .blk _ x=>xB lc x
 | .loop x=>xB lc x
 | .cut x=>xB lc x
 | .rangeF j _ ps x y=>lc j=some (ps,x,y)/\qb5 x=true/\qb5 y=true
 | _=>True
omit [Cur] in
def xB.of_no{lc:qb8}:∀{c:ICode},qb5 c=true->xB lc c
 | .seq x y,h=>D9
 | .cond _ x y,h=>D9
 | .blk _ x,h=>xB.of_no (c:=x) h
 | .loop x,h=>xB.of_no (c:=x) h
 | .cut x,h=>xB.of_no (c:=x) h
 | .rangeF _ _ _ _ _,h=>by cases h
 | .skip,_=>trivial
 | .reg _ _,_=>trivial
 | .exit _,_=>trivial
 | .ret,_=>trivial
 | .no,_=>trivial
structure SitesOk (P:Program) (env:Tr IFn) (lc:qb8):Prop where
 into:∀j ps x y r,lc j=some (ps,x,y)->LoopOk P r ps x y->Cur.ok j r
 out:∀j ps x y r,lc j=some (ps,x,y)->Cur.ok j r->LoopOk P r ps x y
 flat:∀j ps x y,lc j=some (ps,x,y)->qb5 x=true/\qb5 y=true
 node:∀f i,env.get f=some i->xB lc i.body
omit [Cur] in
def quM{f fd:Nat}{i:IFn}(hc:qdO P f fd i=true):qiv P f:=by
 unfold qdO at hc;simp only[zzB]at hc;obtain⟨_,hc⟩:=hc;split at hc<;>try (cases hc;done)
 split at hc<;>try (cases hc;done)
 rename_i fn hfn;simp only[zzB,bne_iff_ne]at hc;obtain⟨⟨hname,hc⟩,_⟩:=hc;split at hc<;>try (cases hc;done)
 rename_i hcb;exact⟨fn,hfn,hname,Hq⟩
def qn5(rsA rsB:List ROp)(d fd:Nat)(caps:List O)(y:ICode):ICode:=.seq (.reg false rsA) (.seq (.reg false rsB) (.seq (.reg false [⟨some d,.op (.mkF fd [] caps),none⟩]) y))
def qiY(P:Program)(env:Tr IFn):Prop:=∀f i,env.get f=some i->Ck P f i\/∃rsA rsB d fd caps y,i.body=qn5 rsA rsB d fd caps y/\qdO P f fd i=true
structure RunOk (P:Program) (lc:qb8) (ih:qc4):Prop where
 s:∀c,xB lc c->∀Q t h,ih c Q t h->∀n,S P n c Q t h
 d:∀rsA rsB d fd caps y,xB lc y->∀Q t h,ih (qn5 rsA rsB d fd caps y) Q t h->∀n,SDf P n fd (qn5 rsA rsB d fd caps y) Q t h
def qit{env:Tr IFn}{lc:qb8}(he:qiY P env)(hs:SitesOk P env lc){ih:qc4}(hi:RunOk P lc ih){f:Nat}{vs:List AV}{h:Hp}{k:AV->Hp->Prop}(hk:qg0 env ih f vs h k):SC P f vs h k:=by
 obtain⟨fn,g1,g2⟩:=(Tr.getK_iff _ _ _).1 hk;have hn:=hs.node f _ g1;cases fn with
 | mk res body =>
  have g3:=qkK.1 g2;rcases he f _ g1 with hc|⟨rsA,rsB,d,fd,caps,y,hb,hc⟩
  .exact SC.mk hc (hi.s _ hn _ _ _ g3 h.sz)
  .have hb:body=qn5 rsA rsB d fd caps y:=hb;subst hb;exact SC.mkDS hc (hi.d _ _ _ _ _ _ hn.2.2.2 _ _ _ g3 h.sz)
def qcH{env:Tr IFn}{ho:HookG}{lc:qb8}(he:qiY P env)(hh:HookGOk P ho)(hs:SitesOk P env lc){ih:qc4}(hi:RunOk P lc ih):qby P σ0 (qlg env ho lc ih):=by
 refine⟨λf vs h k hk=>?_,λb us h k hk=>?_⟩
 .have hk':qsV env ho ih f vs h k:=hk;unfold qsV at hk';cases hv:ho.a f vs with
  | none=>rw[hv]at hk';exact qlm (λhk=>qit he hs hi hk) (hh.g f) hk'
  | some v=>rw[hv]at hk';exact hh.a f vs v hv h k hk'
 .have hk':ylR lc ih b us h k:=hk;obtain⟨r,ts,hg,h2,_⟩:=qfL hk';obtain⟨j,hj,h2⟩:=qia h2;obtain⟨ps,ai,bi,hl,h2⟩:=qvU h2;obtain⟨hb,h2⟩:=(qc _ _).1 h2;simp only[zzB]at hb;obtain⟨b1,b2,b3⟩:=hb;rw[qei]at b1 b2;have b1:=of_decide_eq_true b1;have b2:=of_decide_eq_true b2;have b3:=Nat.eq_of_beq_eq_true b3;have h2:=(qif (qkj.1 h2)).1;obtain⟨fa,fb⟩:=hs.flat j ps ai bi hl;refine SY.mkL hg (ps:=ps) (ai:=ai) (bi:=bi) (λr' hl'=>?_) b1 b2 b3 ?_
  .rcases hl' with⟨_,h0⟩|⟨j',e1,e2,_,_⟩
   .exact absurd hj (h0 j)
   .rw[hj]at e1;cases e1;exact hs.out j ps ai bi r' hl e2
  .refine (hi.s ai (xB.of_no fa) _ _ _ h2 h.sz).mono λe t1 h1 hq=>?_
   cases e with
   | exit id=>exact hq
   | ret=>exact hq
   | normal =>
    obtain⟨r1,ts1,g1,hq,_⟩:=qfL hq;obtain⟨j1,hj1,hq⟩:=qia hq;obtain⟨hr1,hq⟩:=qsu hq;obtain⟨_,hq⟩:=(xb _ _ _ _).1 hq;refine⟨r1,ts1,tpl j1 .busy r1.pending,g1,hr1,λq hlq=>?_,?_⟩
    .have e:tpl j1 .busy r1.pending=tpl j1 .busy q.pending:=by rw[hlq.pending]
     rw[e];exact qcc.tpl hj1 hlq .busy q.pending
    .refine (hi.s bi (xB.of_no fb) _ _ _ hq h.sz).mono λe t3 h3 hq=>?_
     obtain⟨r3,ts3,g3,hq,_⟩:=qfL hq;obtain⟨j3,hj3,hq⟩:=qia hq;cases e with
     | normal =>
      obtain⟨_,hq⟩:=(xb _ _ _ _).1 hq;exact⟨r3,ts3,_,g3,λq hlq=>qcc.tpl hj3 hlq .ready none,hq⟩
     | exit id =>
      obtain⟨_,hq⟩:=(xb _ _ _ _).1 hq;exact⟨r3,ts3,_,g3,λq hlq=>qcc.tpl hj3 hlq .done (some (.exit id)),hq⟩
     | ret =>
      obtain⟨_,hq⟩:=(xb _ _ _ _).1 hq;exact⟨r3,ts3,_,g3,λq hlq=>qcc.tpl hj3 hlq .done (some .ret),hq⟩
def qLI{env:Tr IFn}{ho:HookG}{lc:qb8}(he:qiY P env)(hh:HookGOk P ho)(hs:SitesOk P env lc):∀m,(∀m',m'<m->RunOk P lc (fr env ho lc m'))->∀rsA rsB d fd caps y,xB lc y->∀Q t h,fr env ho lc m (qn5 rsA rsB d fd caps y) Q t h->∀n,SDf P n fd (qn5 rsA rsB d fd caps y) Q t h
 | 0,_,_,_,_,_,_,_,_,_,_,_,h=>λ_=>h.elim
 | 1,_,_,_,_,_,_,_,_,_,_,_,h=>λ_=>h.elim
 | 2,_,_,_,_,_,_,_,_,_,_,_,h=>λ_=>by
  have h':qel qB false _ _ (λt h=>False) _ _:=h
  obtain⟨_,_,hf,_⟩:=qgh qB false (qfW env ho lc (qsd env ho lc 0)) _ _ _ _ h';exact hf.elim
 | 3,_,_,_,_,_,_,_,_,_,_,_,h=>λ_=>by
  have h':qel qB false _ _ (λt h=>qel qB false _ _ (λt h=>False) t h) _ _:=h
  obtain⟨_,_,hf,_⟩:=qgh qB false (qfW env ho lc (qsd env ho lc 1)) _ _ _ _ h';obtain⟨_,_,hf,_⟩:=qgh qB false (qfW env ho lc (qsd env ho lc 0)) _ _ _ _ hf;exact hf.elim
 | m+4,hr,rsA,rsB,d,fd,caps,y,hy,Q,t,h,hq=>λn=>by
  have hq:qel qB false (qlg env ho lc (fr env ho lc (m+2))) rsA (λt h=>qel qB false (qlg env ho lc (fr env ho lc (m+1))) rsB (λt h=>qel qB false (qlg env ho lc (fr env ho lc m)) [⟨some d,.op (.mkF fd [] caps),none⟩] (λt h=>fr env ho lc (m+1) y Q t h) t h) t h) t h:=hq
  obtain⟨t1,h1,q1,b1⟩:=qgh qB false (qfW env ho lc (qsd env ho lc (m+2))) _ _ _ _ hq;obtain⟨t2,h2,q2,b2⟩:=qgh qB false (qfW env ho lc (qsd env ho lc (m+1))) _ _ _ _ q1;have sA:=qcH he hh hs (hr (m+2) Ac);have sB:=qcH he hh hs (hr (m+1) Ac);have sD:=qcH he hh hs (hr m Ac);refine⟨_,sA,b1 _ ⟨_,sB,b2 _ ⟨_,sD,?_⟩⟩⟩;have q3:ww t2 caps (λcs=>wu t2 (some d) (.fn fd [] cs) (λt'=>fr env ho lc (m+1) y Q t' h2)):=q2
  obtain⟨cs,q4,b4⟩:=qg7 _ _ _ q3;show ww t2 caps (λcs=>wu t2 (some d) (.fn fd [] cs) (λt'=>ql1 fd _ t'/\S P n y Q t' h2))
  refine b4 _ ?_;have q5:=(Tr.setK_iff (t:=t2) (n:=d) (x:=AV.fn fd [] cs) (k:=λt'=>fr env ho lc (m+1) y Q t' h2)).1 q4
  refine(Tr.setK_iff (t:=t2) (n:=d) (x:=AV.fn fd [] cs) (k:=λt'=>ql1 fd _ t'/\S P n y Q t' h2)).2 ⟨⟨d,cs,rfl,Bn⟩,?_⟩
  exact(hr (m+1) Ac).s y hy _ _ _ q5 n
def qqO{env:Tr IFn}{ho:HookG}{lc:qb8}(he:qiY P env)(hh:HookGOk P ho)(hs:SitesOk P env lc):∀m,(∀m',m'<=m->RunOk P lc (fr env ho lc m'))/\(∀x,xB lc x->∀Q t h,fr env ho lc m (.loop x) Q t h->∀n,SL P n x Q t h)
 | 0=>⟨λm' hm=>by
   obtain rfl:m'=0:=Ac
   exact⟨λ_ _ _ _ _ h=>h.elim,λ_ _ _ _ _ _ _ _ _ _ h=>h.elim⟩,λ_ _ _ _ _ h=>h.elim⟩
 | m+1=>by
  obtain⟨ihA,ihl⟩:=qqO he hh hs m;have ihR:=ihA m (zzL _);have ih:=ihR.s
  have loop:∀x,xB lc x->∀Q t h,fr env ho lc (m+1) (.loop x) Q t h->∀n,SL P n x Q t h:=by
   intro x hx Q t h hv n;have hv':fr env ho lc m x (λe t h=>onX e (fr env ho lc m (.loop x) Q t h) (λid=>Q (.exit id) t h) (Q .ret t h)) t h:=hv
   refine SL.of_S ((ih _ hx _ _ _ hv' n).mono ?_);intro e t h hq;cases e with
   | normal=>exact ihl x hx Q t h hq n
   | exit id=>exact hq
   | ret=>exact hq
  refine⟨λm' hm=>?_,loop⟩
  rcases Nat.lt_or_eq_of_le hm with hm|rfl
  .exact ihA m' Ac
  refine⟨λc hc Q t h hv n=>?_,qLI he hh hs (m+1) (λm' hm=>ihA m' Ac)⟩
  cases c with
  | no=>exact hv.elim
  | rangeF j g ps x y =>
   obtain⟨hl,hx,hy⟩:=hc;obtain⟨v,g1,g2⟩:=qw t g _ hv;cases v<;>try exact(g1:False).elim
   rename_i f first cap
   obtain⟨g3,g4⟩:=(qc _ _).1 g1;rw[qei]at g3;obtain⟨ts,g5,g6,_⟩:=qkh t 0 1 [] _ g4;rw[qjC,zD]at g5;refine S.rangeFL (ts:=ts) (by simpa using g3) (λp hp=>?_) ⟨hx,hy⟩ (g2 _ ?_)
   .rcases g6 p hp with hp|⟨n,e1,e2⟩
    .cases hp
    .rw[e1];simpa using e2
   .obtain⟨fn,e1,e2⟩:=(Tr.getK_iff _ _ _).1 g5;refine⟨(he f _ e1).elim qcK (fun⟨_,_,_,_,_,_,_,hc⟩=>quM hc),λr0 hr0 hp0 hlo=>⟨tpl j .ready none,.inr ⟨j,rfl,hs.into j ps x y r0 hl hlo,hr0,hp0⟩,?_⟩⟩
    refine(qit he hs ihR g5).mono λ_ h' hq=>?_
    obtain⟨r,ts',q1,q2,_⟩:=qfL hq;obtain⟨q3,q4⟩:=qn6 q2;obtain⟨_,q5⟩:=(xb _ _ _ _).1 q4;refine⟨r,ts',q1,q3,?_⟩;cases hp:r.pending with
    | none=>rw[hp]at q5;exact q5
    | some c=>rw[hp]at q5;cases c<;>exact q5
  | cut x =>
   have hv':fr env ho lc m x Q t h:=hv;exact qj (c:=.cut x) (ih x hc _ _ _ hv' n)
  | skip=>exact qj (c:=.skip) hv
  | exit id=>exact qj (c:=.exit id) hv
  | ret=>exact qj (c:=.ret) hv
  | reg d ops=>exact S.reg (qfW env ho lc (qsd env ho lc m)) (qcH he hh hs ihR) hv
  | seq x y =>
   have hv':fr env ho lc m x (λe t h=>onX e (fr env ho lc m y Q t h) (λid=>Q (.exit id) t h) (Q .ret t h)) t h:=hv
   refine S.seq ((ih _ hc.1 _ _ _ hv' n).mono ?_);intro e t h hq;cases e with
   | normal=>exact ih y hc.2 Q t h hq n
   | exit id=>exact hq
   | ret=>exact hq
  | cond c x y =>
   obtain⟨v,g1,g2⟩:=qw t c _ hv;refine S.cond (g2 _ ?_);obtain⟨b,g3,g4⟩:=qhS v _ g1;refine g4 _ ?_;cases b with
   | true=>exact ih _ hc.1 _ _ _ g3 n
   | false=>exact ih _ hc.2 _ _ _ g3 n
  | blk id x =>
   have hv':fr env ho lc m x (λe t h=>X.rec (motive:=λ_=>Prop) (Q .normal t h) (λid'=>Bool.rec (motive:=λ_=>Prop) (Q (.exit id') t h) (Q .normal t h) (Nat.beq id' id)) (Q .ret t h) e) t h:=hv
   refine S.blk ((ih x hc _ _ _ hv' n).mono ?_);intro e t h hq;cases e with
   | normal=>exact hq
   | ret=>exact hq
   | exit i =>
    exact Az
  | loop x=>exact S.loop (loop x hc Q t h hv n)
def SC.runR{env:Tr IFn}{ho:HookG}{lc:qb8}(he:qiY P env)(hh:HookGOk P ho)(hs:SitesOk P env lc)(m:Nat){f:Nat}{vs:List AV}{h:Hp}{k:AV->Hp->Prop}(hk:qlg env ho lc (fr env ho lc m) (Nat.succ f) vs h k):SC P f vs h k:=(qcH he hh hs ((qqO he hh hs m).1 m (zzL _))).1 f vs h k hk
end
section
@[reducible] def qJI (P:Program) (lc:qb8):Cur:=⟨λj r=>∃ps x y,lc j=some (ps,x,y)/\LoopOk P r ps x y,λ_ _ ⟨ps,x,y,h1,h2⟩=>⟨ps,x,y,h1,⟨h2.params,h2.code,h2.flat,h2.real⟩⟩⟩
inductive AllT (p:Nat->IFn->Bool):Nat->Nat->Tr IFn->Prop where
 | leaf (a b:Nat):AllT p a b .leaf
 | no (a b:Nat) {l r:Tr IFn}:AllT p (2*a) (a+b) l->AllT p (2*a) (2*a+b) r->AllT p a b (.node none l r)
 | fn (a b:Nat) {i:IFn}{l r:Tr IFn}:p b i=true->AllT p (2*a) (a+b) l->AllT p (2*a) (2*a+b) r->AllT p a b (.node (some i) l r)
theorem AllT.get{p:Nat->IFn->Bool}{a b:Nat}{t:Tr IFn}(h:AllT p a b t):∀n i,t.get n=some i->p (a*n+b) i=true:=by
 induction h with
 | leaf=>intro n i h;simp at h
 | no a b hl hr ihl ihr =>
  intro n i h;cases n with
  | zero=>rw[Tr.get_node]at h;cases h
  | succ m =>
   rcases Nat.mod_two_eq_zero_or_one m with h0|h0
   .obtain⟨j,rfl⟩:∃j,m=2*j:=⟨m / 2,Ac⟩
    rw[Tr.get_node]at h;simp only[h0,if_true,Nat.mul_div_cancel_left j (Nat.zero_lt_two)]at h;have:=ihl j i h;rwa [show 2*a*j+(a+b)=a*(2*j+1)+b from by refine Et ?_;exact Ac]at this
   .obtain⟨j,rfl⟩:∃j,m=2*j+1:=⟨m / 2,Ac⟩
    rw[Tr.get_node]at h;simp only[h0,Nat.one_ne_zero,if_false,show(2*j+1) / 2=j from Ac]at h
    have:=ihr j i h;rwa [show 2*a*j+(2*a+b)=a*(2*j+1+1)+b from by refine Dg ?_;exact Ac]at this
 | fn a b hc hl hr ihl ihr =>
  intro n i h;cases n with
  | zero=>rw[Tr.get_node]at h;cases h;simpa using hc
  | succ m =>
   rcases Nat.mod_two_eq_zero_or_one m with h0|h0
   .obtain⟨j,rfl⟩:∃j,m=2*j:=⟨m / 2,Ac⟩
    rw[Tr.get_node]at h;simp only[h0,if_true,Nat.mul_div_cancel_left j (Nat.zero_lt_two)]at h;have:=ihl j i h;rwa [show 2*a*j+(a+b)=a*(2*j+1)+b from by refine Et ?_;exact Ac]at this
   .obtain⟨j,rfl⟩:∃j,m=2*j+1:=⟨m / 2,Ac⟩
    rw[Tr.get_node]at h;simp only[h0,Nat.one_ne_zero,if_false,show(2*j+1) / 2=j from Ac]at h
    have:=ihr j i h;rwa [show 2*a*j+(2*a+b)=a*(2*j+1+1)+b from by refine Dg ?_;exact Ac]at this
def qrY(p:Nat->IFn->Bool):Tr IFn->Nat->Nat->Bool:=λt=>Tr.rec (motive:=λ_=>Nat->Nat->Bool) (λ_ _=>true) (λv _ _ il ir a b=>(match v with|none=>true|some i=>p b i)&&(il (2*a) (a+b)&&ir (2*a) (2*a+b))) t
def qhW{p:Nat->IFn->Bool}:∀(t:Tr IFn) (a b:Nat),qrY p t a b=true->AllT p a b t
 | .leaf,a,b,_=>.leaf a b
 | .node none l r,a,b,h=>by
  have h':(true&&(qrY p l (2*a) (a+b)&&qrY p r (2*a) (2*a+b)))=true:=h;simp only[zzB]at h';exact .no a b (qhW l _ _ h'.2.1) (qhW r _ _ h'.2.2)
 | .node (some i) l r,a,b,h=>by
  have h':(p b i&&(qrY p l (2*a) (a+b)&&qrY p r (2*a) (2*a+b)))=true:=h;simp only[zzB]at h';exact .fn a b h'.1 (qhW l _ _ h'.2.1) (qhW r _ _ h'.2.2)
def qua(l:List (List Nat×ICode×ICode)):qb8:=λj=>l[j]?
def qLo{P:Program}{env:Tr IFn}{l:List (List Nat×ICode×ICode)}{L:List Nat}(hflat:(l.all λx=>qb5 x.2.1&&qb5 x.2.2)=true)(hn:qrY (λn i=>qb5 i.body||L.any (Nat.beq n)) env 1 0=true)
  (hL:∀f ∈ L,∀i,env.get f=some i->xB (qua l) i.body):@SitesOk (qJI P (qua l)) P env (qua l):=by
 letI:=qJI P (qua l)
 refine⟨λj ps x y r h1 h2=>⟨ps,x,y,h1,h2⟩,λj ps x y r h1 ⟨ps',x',y',h2,h3⟩=>?_,λj ps x y h=>?_,λf i hg=>?_⟩
 .rw[h1]at h2;cases h2;exact h3
 .have:=zzy.1 hflat _ (zzM h);exact D0
 .have h:=(qhW env 1 0 hn).get f i hg;rw[Nat.one_mul]at h;rcases(zzO _ _ ▸ h:qb5 i.body=true\/L.any (Nat.beq (f+0))=true)with h|h
  .exact xB.of_no h
  .obtain⟨g,hg1,hg2⟩:=List.any_eq_true.1 h;have:=Nat.eq_of_beq_eq_true hg2;exact hL f (by have e:f=g:=this;rw[e];exact hg1) i hg
def qsC(fd:Nat)(i:IFn):Bool:=match i.body with
 | .seq (.reg false _) (.seq (.reg false _) (.seq (.reg false [⟨some _,.op (.mkF g [] _),none⟩]) _))=>Nat.beq g fd
 | _=>false
def qLD{P:Program}{env:Tr IFn}{D:List (Nat×Nat)}(h:qrY (λn i=>qdN P n i||D.any λp=>Nat.beq p.1 n&&(qsC p.2 i&&qdO P n p.2 i)) env 1 0=true):qiY P env:=by
 intro f i hg;have h:=(qhW env 1 0 h).get f i hg;rw[Nat.one_mul,Nat.add_zero]at h;rcases(zzO _ _ ▸ h:Ck P f i\/(D.any λp=>Nat.beq p.1 f&&(qsC p.2 i&&qdO P f p.2 i))=true)with h|h
 .exact .inl h
 .obtain⟨p,_,hp⟩:=List.any_eq_true.1 h;simp only[zzB]at hp;obtain⟨_,h1,h2⟩:=hp;refine .inr ?_;unfold qsC at h1;split at h1<;>try (cases h1;done)
  rename_i rsA rsB d g caps y hb;have e:=Nat.eq_of_beq_eq_true h1;rw[e]at hb;exact⟨rsA,rsB,d,p.2,caps,y,hb,h2⟩
end
section
variable [Cur]
variable {P:Program}
def qFZ(a b:qgM):qgM:=λf vs=>Option.rec (motive:=λ_=>Option AV) (b f vs) (λv=>some v) (a f vs)
def qIx{a b:qgM}(ha:qfR P a)(hb:qfR P b):qfR P (qFZ a b):=λf vs v h=>by
 have h':(Option.rec (motive:=λ_=>Option AV) (b f vs) (λv=>some v) (a f vs):Option AV)=some v:=h
 cases hv:a f vs with
 | none=>rw[hv]at h';exact hb f vs v h'
 | some u=>rw[hv]at h';cases h';exact ha f vs v hv
def qa.runK{env:Tr IFn}{ho:HookG}{lc:qb8}(he:qiY P env)(hh:HookGOk P ho)(hs:SitesOk P env lc)(m:Nat){f:Nat}{vs:List AV}{v:AV}(hcl:qu vs=true)(hk:qlg env ho lc (fr env ho lc m) (Nat.succ f) vs H0 (λv' h'=>tt (qch h' v v'))=True):qa P f vs v :=
 qa.of_SC hcl ((SC.runR he hh hs m (of_eq_true hk)).mono λ_ _ hv=>qtc _ _ (qKU hv))
end
section
variable [Cur]
variable {P:Program}{f:Nat}
def qaY(q:IntKind)(p:List UInt8×Int):List AV:=[.s p.1,.i q p.2]
def qnn{q:IntKind}(p:List UInt8×Int):(qaY q p).length=2:=rfl
def qgD:IFn:=irJ 54 []
def qU:List (List UInt8×Int):=[([116,105,109,101],128),([109,110,116],131072),([99,103,114,111,117,112],33554432),([117,116,115],67108864),([105,112,99],134217728),([117,115,101,114],268435456),([112,105,100],536870912),([110,101,116],1073741824)]
def qEr(hc:Ck P f qgD):qa P f [] (.agg (qU.flatMap (qaY .u64))):=by
 refine Al ?_;simp only[qgD,vI,simprocAttr];simp only[↓vS,vT,simprocAttr,qU,qaY,zzv,List.flatMap_nil,vZ]
def qeC:IFn:=irJ 50 []
def zZ:List (List UInt8×Int):=[([65,70,95,85,78,73,88],1),([65,70,95,73,78,69,84],2),([65,70,95,73,78,69,84,54],10),([65,70,95,78,69,84,76,73,78,75],16),([65,70,95,80,65,67,75,69,84],17),([65,70,95,66,76,85,69,84,79,79,84,72],31),([65,70,95,65,76,71],38),([65,70,95,86,83,79,67,75],40)]
def qAq(hc:Ck P f qeC):qa P f [] (.agg (zZ.flatMap (qaY .u32))):=by
 refine Al ?_;simp only[qeC,vI,simprocAttr];simp only[↓vS,vT,simprocAttr,zZ,qaY,zzv,List.flatMap_nil,vZ]
def qgC(a:Nat):IFn:=irJ 34 [54,a]
def qHT{g1:Nat}(hc:Ck P f (qgC g1))(h1:qa P g1 [] (.agg (qU.flatMap (qaY .u64)))):qa P f [] (.i .u64 2114060416):=by
 refine Al ?_;simp only[qgC,vI,simprocAttr];refine Ae ?_;refine h1.sc ?_;refine Ae ?_
 iterate 8
  refine qcz ?_;simp only[↓vS,vT,simprocAttr,qU,qaY,zzv,List.flatMap_nil,Int.reduceLT,Int.reduceAdd,Int.reduceNeg,qE,(Af:orI .u64 0 128=128),(Af:orI .u64 128 131072=131200),(Af:orI .u64 131200 33554432=33685632),(Af:orI .u64 33685632 67108864=100794496),(Af:orI .u64 100794496 134217728=235012224),(Af:orI .u64 235012224 268435456=503447680),(Af:orI .u64 503447680 536870912=1040318592),(Af:orI .u64 1040318592 1073741824=2114060416)]
 refine qcz ?_;simp only[↓vS,vT,simprocAttr,Int.reduceLT,vZ,and_self]
def qbB(P:Program)(g esz bytes:Nat):Prop:=∀(n:Nat) (rows:List AV),rows.length=n*esz->qu rows=true->qF rows=true->n<=qe->n*bytes<=qe->Own P g [.fz n rows] (.own 0 n) [.cells esz true true rows]
end
section
variable [Cur]
def rI(k:IntKind)(l:List Int):List AV:=l.map (.i k)
section
variable {k:IntKind}{l m:List Int}{j:Nat}
def qaf:(rI k l).length=l.length:=by simp[rI]
def qg:qu (rI k l)=true:=qcJ λ_=>rfl
def qKH:qF (rI k l)=true:=quJ λ_=>rfl
def qbd:(rI k l)[j]?=(l[j]?).map (.i k):=by simp[rI]
def qsq:rI k l++rI k m=rI k (l++m):=by simp[rI]
def qHB{x:Int}:rI k [x]=[.i k x]:=rfl
def qtP{x:Int}:rI k (x::l) = .i k x::rI k l:=rfl
end
def rS(l:List (List UInt8)):List AV:=l.map .s
section
variable {l m:List (List UInt8)}{j:Nat}
def qzw:(rS l).length=l.length:=by simp[rS]
def xz:qu (rS l)=true:=qcJ λ_=>rfl
def qpL:(rS l)[j]?=(l[j]?).map .s:=by simp[rS]
def qzv:rS l++rS m=rS (l++m):=by simp[rS]
def qzx{x:List UInt8}:rS [x]=[.s x]:=rfl
end
end
section
variable [Cur]
variable {P:Program}{f:Nat}
def xH{α:Type}(p:α->Bool):List α->Nat->Int
 | [],_=>-1
 | x::xs,j=>if p x=true then(j:Int)else xH p xs (j+1)
def qkU{α:Type}(p:α->Bool):∀(l:List α) (j:Nat),(xH p l j = -1/\l.find? p=none)\/∃i x,xH p l j=((j+i:Nat):Int)/\l[i]?=some x/\p x=true/\l.find? p=some x/\∀k y,k<i->l[k]?=some y->p y=false
 | [],j=>.inl ⟨rfl,rfl⟩
 | x::xs,j=>by
  by_cases h:p x=true
  .refine .inr ⟨0,x,by simp[xH,h],rfl,h,by simp[h],λk y hk=>Ac⟩
  .rcases qkU p xs (j+1)with⟨h1,h2⟩|⟨i,y,h1,h2,h3,h4,h5⟩
   .exact .inl ⟨by simp[xH,h,h1],Ad⟩
   .refine .inr ⟨i+1,y,?_,F0,h3,by simp[h,h4],?_⟩
    all_goals grind[xH.eq_2]
def qwT(P:Program)(f:Nat):Prop:=∀{α:Type}(enc:α->AV) (p:α->Bool) (g:Nat) (a c:List AV) (l:List α),qu a=true->qu c=true->l.length<=qe->
 (∀x ∈ l,qa P g (a++([enc x]++c)) (.b (p x)))->qa P f [.fz l.length (l.map enc),.fn g a c] (.i .i64 (xH p l 0))
def qfV(m:Nat)(P:Program)(f:Nat):Prop:=∀{α:Type}(enc:α->List AV) (p:α->Bool) (g:Nat) (a c:List AV) (l:List α),(∀x,(enc x).length=m)->qu a=true->qu c=true->l.length<=qe->
 (∀x ∈ l,qa P g (a++([.agg (enc x)]++c)) (.b (p x)))->qa P f [.fz l.length (l.flatMap enc),.fn g a c] (.i .i64 (xH p l 0))
def qam:IFn:=irJ 227 []
def qAs(hc:Ck P f qam):qwT P f:=by
 intro α enc p g a c l ha hc' hl hp;refine qa.mk hc Ee ?_;simp only[qam,vI,simprocAttr];refine Ae ?_;refine SL.loop (α:=Nat) (λj=>[(0,.fz l.length (l.map enc)),(1,.fn g a c),(7,.i .i64 l.length),(8,.i .i64 j)]) (λ_=>[]) (λj=>j<=l.length/\xH p l 0=xH p (l.drop j) j) (λj=>l.length-j) 0 [] ?_ ?_ ?_ rfl ?_ ?_
 .exact E3
 .trivial
 .simp
 .simp
 rintro j ⟨hj,hI⟩ G ih;refine Am ?_
 by_cases hlt:j<l.length
 .have hx:l[j]?=some l[j]:=Ad
  have hw:IntKind.wrap .i64 ((j:Int)+1)=(j:Int)+1:=qE Ac (by have:=hl;simp only[qe]at this;exact Ac)
  rw[zzf hlt,xH]at hI;simp only[↓vS,vT,simprocAttr,hlt,zzU,zzo,hx,zza,hw];refine(hp l[j] Ad).sc ?_
  by_cases hpx:p l[j]=true
  .exact Bq
  .rw[if_neg hpx]at hI;refine Sb (zzA hpx hw) ?_;refine ih (j+1) ⟨Ac,hI⟩ Ac _ _ (Wk.mk _ _ [] ?_ ?_ ?_ rfl)
   .exact E3
   .trivial
   .simp
 .refine Sb hlt ?_;rw[zzk Ac]at hI;simp[hI,xH,vZ]
def xk:IFn:=irJ 111 []
def qx5(hc:Ck P f xk):qfV 7 P f:=by
 intro α enc p g a c l hlen ha hc' hl hp;refine qa.mk hc Ee ?_;simp only[xk,vI,simprocAttr];refine Ae ?_;refine SL.loop (α:=Nat) (λj=>[(0,.fz l.length (l.flatMap enc)),(1,.fn g a c),(7,.i .i64 l.length),(8,.i .i64 j)]) (λ_=>[]) (λj=>j<=l.length/\xH p l 0=xH p (l.drop j) j) (λj=>l.length-j) 0 [] ?_ ?_ ?_ rfl ?_ ?_
 .exact E3
 .trivial
 .simp
 .simp
 rintro j ⟨hj,hI⟩ G ih;refine Am ?_
 by_cases hlt:j<l.length
 .have hx:l[j]?=some l[j]:=Ad
  have hw:IntKind.wrap .i64 ((j:Int)+1)=(j:Int)+1:=qE Ac (by have:=hl;simp only[qe]at this;exact Ac)
  have he:=qI hlen hx;have hb:j*7+7<=(l.flatMap enc).length:=by rw[zb hlen];exact Ac
  rw[zzf hlt,xH]at hI;refine Gw ?_;refine(hp l[j] Ad).sc ?_
  by_cases hpx:p l[j]=true
  .exact Bq
  .rw[if_neg hpx]at hI;refine Sb (zzA hpx hw) ?_;refine ih (j+1) ⟨Ac,hI⟩ Ac _ _ (Wk.mk _ _ [] ?_ ?_ ?_ rfl)
   .exact E3
   .trivial
   .simp
 .refine Sb hlt ?_;rw[zzk Ac]at hI;simp[hI,xH,vZ]
def xN:IFn:=irJ 48 []
def qti(hc:Ck P f xN):qfV 2 P f:=by
 intro α enc p g a c l hlen ha hc' hl hp;refine qa.mk hc Ee ?_;simp only[xN,vI,simprocAttr];refine Ae ?_;refine SL.loop (α:=Nat) (λj=>[(0,.fz l.length (l.flatMap enc)),(1,.fn g a c),(7,.i .i64 l.length),(8,.i .i64 j)]) (λ_=>[]) (λj=>j<=l.length/\xH p l 0=xH p (l.drop j) j) (λj=>l.length-j) 0 [] ?_ ?_ ?_ rfl ?_ ?_
 .exact E3
 .trivial
 .simp
 .simp
 rintro j ⟨hj,hI⟩ G ih;refine Am ?_
 by_cases hlt:j<l.length
 .have hx:l[j]?=some l[j]:=Ad
  have hw:IntKind.wrap .i64 ((j:Int)+1)=(j:Int)+1:=qE Ac (by have:=hl;simp only[qe]at this;exact Ac)
  have he:=qI hlen hx;have hb:j*2+2<=(l.flatMap enc).length:=by rw[zb hlen];exact Ac
  rw[zzf hlt,xH]at hI;refine Gw ?_;refine(hp l[j] Ad).sc ?_
  by_cases hpx:p l[j]=true
  .exact Bq
  .rw[if_neg hpx]at hI;refine Sb (zzA hpx hw) ?_;refine ih (j+1) ⟨Ac,hI⟩ Ac _ _ (Wk.mk _ _ [] ?_ ?_ ?_ rfl)
   .exact E3
   .trivial
   .simp
 .refine Sb hlt ?_;rw[zzk Ac]at hI;simp[hI,xH,vZ]
def zO:List (List UInt8×Int):=[([120,56,54,45,54,52],3221225534),([120,56,54],1073741827),([120,51,50],3221225534),([97,114,109],1073741864),([97,114,109,54,52],3221225655),([114,105,115,99,118,54,52],3221225715)]
def qiw:IFn:=irJ 49 []
def qEY(hc:Ck P f qiw):qa P f [] (.agg (zO.flatMap (qaY .u32))):=by
 refine Al ?_;simp only[qiw,vI,simprocAttr];simp only[↓vS,vT,simprocAttr,zO,qaY,zzv,List.flatMap_nil,vZ]
end
section
variable [Cur]
structure GCall where
 name:List UInt8
 act:Int
def jI(c:GCall):List AV:=[.s c.name,.i .u32 c.act]
structure GNote where
 file:List UInt8
 line:Int
 err:Int
 text:List UInt8
structure Asg where
 file:List UInt8
 line:Int
 sec:List UInt8
 key:List UInt8
 val:List UInt8
def qjJ(a:Asg):List AV:=[.s a.file,.i .i64 a.line,.s a.sec,.s a.key,.s a.val]
def qdx(c:GCall):(jI c).length=2:=rfl
def rC(l:List GCall):List AV:=l.flatMap jI
section
variable {l m:List GCall}{j:Nat}
def qhM:(rC l).length=l.length*2:=zb qdx l
def ql:qu (rC l)=true:=x4 λ_=>rfl
def qCW:(rC l).take (j*2)=rC (l.take j):=qfo qdx l j
def qCV:(rC l).drop (j*2)=rC (l.drop j):=qdB qdx l j
def qpH{c:GCall}(h:l[j]?=some c):((rC l).drop (j*2)).take 2=jI c:=qI qdx h
def qHy{c:GCall}(h:l[j]?=some c){i:Nat}(hi:i<2):(rC l)[j*2+i]?=(jI c)[i]?:=qcP qdx h hi
def qHx:rC l++rC m=rC (l++m):=by simp[rC]
def qCU{c:GCall}:rC (c::l) = .s c.name :: .i .u32 c.act::rC l:=rfl
def qng(h:j<l.length):j*2+2<=(rC l).length:=by rw[qhM];exact Ac
end
structure GList where
 mode:Int
 calls:List GCall
def qbC(l:GList):List AV:=[.i .u8 l.mode,.fz l.calls.length (rC l.calls)]
structure Pol where
 arches:List Int
 filter:GList
 deny:Int
 log:GList
 fams:List Int
 fmode:Int
 spaces:Int
 we:Bool
 pe:Bool
 rt:Bool
 np:Bool
def qr(p:Pol):List AV:=[.fz p.arches.length (rI .i64 p.arches),.i .u8 p.filter.mode,.fz p.filter.calls.length (rC p.filter.calls),.i .u32 p.deny,.i .u8 p.log.mode,.fz p.log.calls.length (rC p.log.calls),
 .fz p.fams.length (rI .u32 p.fams),.i .u8 p.fmode,.i .u64 p.spaces,.b p.we,.b p.pe,.b p.rt,.b p.np]
def qcd(p:Pol):qu (qr p)=true:=rfl
def qCQ:Pol:=⟨[],⟨0,[]⟩,0,⟨0,[]⟩,[],0,0,false,false,false,false⟩
end
section
variable [Cur]
variable {P:Program}{f:Nat}
theorem qbB.pure{g esz by':Nat}(h:qbB P g esz by'){n:Nat}{rows:List AV}(hl:rows.length=n*esz)(hc:qu rows=true)(ho:qF rows=true)(h1:n<=qe)(h2:n*by'<=qe):qa P g [.fz n rows] (.fz n rows):=by
 refine(h n rows hl hc ho h1 h2).pure E4 ?_;refine .own 0 n esz true rows rows ?_ (λh0=>?_) (Frzs.self hc)
 .simp[qap,Hp.push,shb,H0,zz4,xt hc]
 .subst h0;exact List.eq_nil_of_length_eq_zero Ac
structure PolOk (p:Pol):Prop where
 a:p.arches.length<=1000
 f:p.fams.length<=1000
 c:p.filter.calls.length<=1000
 l:p.log.calls.length<=1000
end
section
variable [Cur]
def qI5(p:Pol):Prop:=p.arches.Pairwise (· < ·)/\p.fams.Pairwise (· < ·)
instance (p:Pol):Decidable (qI5 p):=inferInstanceAs (Decidable (_/\_))
end
section
variable [Cur]
variable {P:Program}{f:Nat}
def qbn:IFn:=irJ 15 []
def qa0(l:GList):Bool:=decide (100<l.calls.length)
def qBT(hc:Ck P f qbn)(l:GList):qa P f [.agg (qbC l)] (.b (qa0 l)):=by
 refine Al ?_;simp only[qbn,qbC,vI,simprocAttr]
 by_cases h:(100:Int)<l.calls.length
 .have h':100<l.calls.length:=Ac
  simp only[↓vS,vT,simprocAttr,h,qa0,h',vZ]
 .have h':¬100<l.calls.length:=Ac
  simp only[↓vS,vT,simprocAttr,h,qa0,h',vZ]
def qbo(a:Nat):IFn:=irJ 6 [15,a]
def zJ(p:Pol)(a:Asg):Bool:=decide (20<p.arches.length)||decide (20<p.fams.length)||qa0 p.filter||qa0 p.log||decide (1000<a.val.length)||decide (200<a.key.length)||decide (200<a.file.length)
def qBU{g:Nat}(hc:Ck P f (qbo g))(hg:∀l,qa P g [.agg (qbC l)] (.b (qa0 l)))(p:Pol)(a:Asg):qa P f [.agg (qr p),.agg (qjJ a)] (.b (zJ p a)):=by
 have cast:∀(n m:Nat),((n:Int)<(m:Int))=(n<m):=λn m=>by simp
 refine Al ?_;simp only[qbo,qr,qjJ,vI,simprocAttr]
 by_cases h1:(20:Int)<p.arches.length
 .have h1':20<p.arches.length:=Ac
  simp only[↓vS,vT,simprocAttr,h1,zJ,h1',vZ];simp
 have h1':¬20<p.arches.length:=Ac
 by_cases h2:(20:Int)<p.fams.length
 .have h2':20<p.fams.length:=Ac
  simp only[↓vS,vT,simprocAttr,h1,h2,zJ,h1',h2',vZ];simp
 have h2':¬20<p.fams.length:=Ac
 refine Sb (zzA h1 h2) ?_;refine(hg p.filter).sc ?_;cases h3:qa0 p.filter
 case true =>
  refine Ae ?_;simp[zJ,h3,vZ]
 refine Ae ?_;refine(hg p.log).sc ?_;cases h4:qa0 p.log
 case true =>
  refine Ae ?_;simp[zJ,h4,vZ]
 by_cases h5:(1000:Int)<a.val.length
 .have h5':1000<a.val.length:=Ac
  refine Sb h5 ?_;simp[zJ,h5',vZ]
 have h5':¬1000<a.val.length:=Ac
 by_cases h6:(200:Int)<a.key.length
 .have h6':200<a.key.length:=Ac
  refine Sb (zzA h5 h6) ?_;simp[zJ,h6',vZ]
 have h6':¬200<a.key.length:=Ac
 by_cases h7:(200:Int)<a.file.length
 .have h7':200<a.file.length:=Ac
  refine Sb (zzA h5 (zzA h6 h7)) ?_;simp[zJ,h7',vZ]
 have h7':¬200<a.file.length:=Ac
 refine Sb (zzA h5 (zzA h6 h7)) ?_;simp[zJ,h1',h2',h3,h4,h5',h6',h7',vZ]
def qmL{p:Pol}{a:Asg}(h:zJ p a=false):p.arches.length<=20/\p.fams.length<=20/\PolOk p/\a.val.length<=1000:=by
 simp only[zJ,qa0,Bool.or_eq_false_iff,decide_eq_false_iff_not]at h;obtain⟨⟨⟨⟨⟨⟨h1,h2⟩,h3⟩,h4⟩,h5⟩,h6⟩,h7⟩:=h;exact⟨Ac,Ac,⟨Ac,Ac,Ac,Ac⟩,Ac⟩
def qhk:IFn:=irJ 53 []
def qmj(n:Int):Bool:=decide (n=0)||decide (n=2147483648)||(decide (327680<=n)&&decide (n<=331775))
def qDK(hc:Ck P f qhk)(n:Int):qa P f [.i .u32 n] (.b (qmj n)):=by
 refine Al ?_;simp only[qhk,vI,simprocAttr]
 by_cases h1:n=0
 .refine Sb h1 ?_;simp[vZ,qmj,h1]
 by_cases h2:n=2147483648
 .refine Sb (zzA h1 h2) ?_;simp[vZ,qmj,h2]
 by_cases h3:327680<=n
 .by_cases h4:n<=331775
  .simp only[↓vS,vT,simprocAttr,h1,h2,h3,h4];simp[vZ,qmj,h3,h4]
  .simp only[↓vS,vT,simprocAttr,h1,h2,h3,h4];simp[vZ,qmj,h1,h2,h4]
 .refine Sb (zzA h1 (zzA h2 h3)) ?_;simp[vZ,qmj,h1,h2,h3]
def qjT(l:List GCall)(s:List UInt8):Option GCall:=l.find? (λc=>decide (c.name=s))
def qD:List (List UInt8×List Int):=[([98,105,110,100],[49,361,49,282,200,200]),([98,112,102],[321,357,321,386,280,280]),([98,114,107],[12,45,12,45,214,214]),([99,108,111,99,107,95,115,101,116,116,105,109,101],[227,264,227,262,112,112]),([99,108,111,110,101],[56,120,56,120,220,220]),([99,108,111,110,101,51],[435,435,(-1),435,435,435]),([99,108,111,115,101],[3,6,3,6,57,57]),([99,111,110,110,101,99,116],[42,362,42,283,203,203]),([100,101,108,101,116,101,95,109,111,100,117,108,101],[176,129,176,129,106,106]),([101,120,101,99,118,101],[59,11,520,11,221,221]),([101,120,105,116],[60,1,60,1,93,93]),([102,105,110,105,116,95,109,111,100,117,108,101],[313,350,313,379,273,273]),([102,111,114,107],[57,2,57,2,(-1),(-1)]),([103,101,116,117,105,100],[102,24,102,24,174,174]),([105,110,105,116,95,109,111,100,117,108,101],[175,128,(-1),128,105,105]),([105,111,99,116,108],[16,54,514,54,29,29]),([107,105,108,108],[62,37,62,37,129,129]),([108,105,115,116,101,110],[50,363,50,284,201,201]),([109,109,97,112],[9,90,9,(-1),222,222]),([109,111,117,110,116],[165,21,165,21,40,40]),([109,112,114,111,116,101,99,116],[10,125,10,125,226,226]),([109,117,110,109,97,112],[11,91,11,91,215,215]),([111,112,101,110],[2,5,2,5,(-1),(-1)]),([111,112,101,110,97,116],[257,295,257,322,56,56]),([112,101,114,115,111,110,97,108,105,116,121],[135,136,135,136,92,92]),([112,107,101,121,95,109,112,114,111,116,101,99,116],[329,380,329,394,288,(-1)]),([112,116,114,97,99,101],[101,26,521,26,117,117]),([114,101,97,100],[0,3,0,3,63,63]),([114,101,98,111,111,116],[169,88,169,88,142,142]),([115,99,104,101,100,95,115,101,116,97,116,116,114],[314,351,314,380,274,274]),([115,99,104,101,100,95,115,101,116,115,99,104,101,100,117,108,101,114],[144,156,144,156,119,119]),([115,101,99,99,111,109,112],[317,354,317,383,277,277]),([115,101,116,110,115],[308,346,308,375,268,268]),([115,101,116,116,105,109,101,111,102,100,97,121],[164,79,164,79,170,170]),([115,101,116,117,105,100],[105,23,105,23,146,146]),([115,104,109,97,116],[30,397,(-1),305,196,196]),([115,111,99,107,101,116],[41,359,41,281,198,198]),([117,109,111,117,110,116,50],[166,52,166,52,39,39]),([117,110,115,104,97,114,101],[272,310,272,337,97,97]),([119,114,105,116,101],[1,4,1,4,64,64])]
def jS(x:List UInt8×List Int):List AV:=[.s x.1,.i .i64 (x.2.getD 0 0),.i .i64 (x.2.getD 1 0),.i .i64 (x.2.getD 2 0),.i .i64 (x.2.getD 3 0),.i .i64 (x.2.getD 4 0),.i .i64 (x.2.getD 5 0)]
def qrC(x:List UInt8×List Int):(jS x).length=7:=rfl
def qrU(n:Nat):List AV:=List.replicate n (.i .i64 0)
def qhg:IFn:=⟨[.cell 0 280 true],.seq (.r [.q 0 (.alloc ((List.replicate 40 (AV.s []::qrU 6)).flatten))]) (.seq (.r ((qD.zipIdx.flatMap λp=>[.q (2*p.2+1) (.build (qrU 6) (p.1.2.zipIdx.map λq=>(q.2,1,.k q.1))),.q (2*p.2+2) (.build (AV.s []::qrU 6) [(0,1,.c (.s p.1.1)),(1,6,.t (2*p.2+1))])]) ++
 [.q 81 (.build ((List.replicate 40 (AV.s []::qrU 6)).flatten) ((List.range 40).map λi=>(7*i,7,.t (2*i+2)))),⟨none,.op (.store 280 (.t 0) (.t 81)),none⟩])) .ret)⟩
def qH2(hc:Ck P f qhg):qa P f [] (.agg (qD.flatMap jS)):=by
 refine Al ?_;simp only[qhg,qrU,List.replicate,List.flatten_cons,List.flatten_nil,qD,List.zipIdx_cons,List.zipIdx_nil,zzv,List.flatMap_nil,zz3,List.map_nil,zzC,zzN,List.range,List.range.loop,vI,simprocAttr];simp only[↓vS,vT,simprocAttr,qD,jS,zzv,List.flatMap_nil,List.getD_cons_zero,List.getD_cons_succ,vZ]
def qfr:IFn:=irJ 82 []
def qEa(hc:Ck P f qfr)(s:List UInt8)(x:List UInt8×List Int):qa P f [.agg (jS x),.pf [.s s] 0] (.b (decide (x.1=s))):=by
 refine qa.mk hc (by simp[qu,clo,jS]) ?_;simp only[qfr,jS,vI,simprocAttr];exact Fd
def qix(a b:Nat):IFn:=irJ 81 [20,a,111,b]
def qpP(p:List UInt8×List Int->Bool):AV:=match qD.find? p with|some x=>.tup [.agg (jS x),.b true]|none=>.tup [.agg [.s [],.i .i64 0,.i .i64 0,.i .i64 0,.i .i64 0,.i .i64 0,.i .i64 0],.b false]
def qFn{g1 g2:Nat}(hc:Ck P f (qix g1 g2))(h1:qa P g1 [] (.agg (qD.flatMap jS)))(h2:qfV 7 P g2)(p:List UInt8×List Int->Bool)(g:Nat)(a c:List AV)(ha:qu a=true)(hcc:qu c=true)
  (hp:∀x ∈ qD,qa P g (a++([.agg (jS x)]++c)) (.b (p x))):qa P f [.fn g a c] (qpP p):=by
 refine qa.mk hc (by simp[qu,clo,ha,hcc]) ?_;simp only[qix,vI,simprocAttr];refine Ae ?_;refine h1.sc ?_;have hlen:(qD.flatMap jS).length=280:=Af
 have hok:qF (qD.flatMap jS)=true:=Af
 have hcl:qu (qD.flatMap jS)=true:=Af
 generalize hT:qD.flatMap jS=T at hlen hok hcl;have htk:T.take 280=T:=zzt Ac;refine Sb (zzA hlen hok) ?_;refine(h2 jS p g a c qD qrC ha hcc Af hp).lend (vs':=[.fz 40 (qD.flatMap jS),.fn g a c]) ?_ rfl ?_
 .refine .cons _ _ _ _ (.cut 7 rfl (zzL _) ?_) (.cons _ _ _ _ (.fn _ _ _ _ _ (Frzs.self ha) (Frzs.self hcc)) .nil);rw[hT];simp[vw,hlen,htk,zc hcl]
 rcases qkU p qD 0 with⟨e1,e2⟩|⟨i,x,e1,e2,e3,e4,e5⟩
 .rw[e1];refine Ae ?_;simp[vZ,qpP,e2]
 .have hi:i<40:=(zzS.1 e2).1;have hn:¬(i:Int)<0:=Ac
  have he:(T.drop (i*7)).take 7=jS x:=by rw[<- hT];exact qI (f:=jS) (m:=7) qrC e2
  have hb:i*7<=273:=Ac
  rw[e1,Nat.zero_add];simp only[↓vS,vT,simprocAttr,hn,hi,he,hb,hlen,jS];simp[vZ,qpP,e4,jS]
def qhf(a b:Nat):IFn:=irJ 52 [82,a,81,b]
def qkW(s:List UInt8):Bool:=(qD.find? (λx=>decide (x.1=s))).isSome
def qF8{g1 g2:Nat}(hc:Ck P f (qhf g1 g2))(h1:∀s x,qa P g1 [.agg (jS x),.pf [.s s] 0] (.b (decide (x.1=s))))
  (h2:∀(p:List UInt8×List Int->Bool) (g:Nat) (a c:List AV),qu a=true->qu c=true->(∀x ∈ qD,qa P g (a++([.agg (jS x)]++c)) (.b (p x)))->qa P g2 [.fn g a c] (qpP p)) (s:List UInt8):qa P f [.s s] (.b (qkW s)):=by
 refine Al ?_;simp only[qhf,vI,simprocAttr];refine Ae ?_;refine(h2 (λx=>decide (x.1=s)) g1 [] [.pf [.s s] 0] rfl rfl (λx _=>h1 s x)).lend (vs':=[.fn g1 [] [.pf [.s s] 0]]) ?_ ?_ ?_
 .exact Fe
 .unfold qpP;split<;>rfl
 unfold qpP qkW;cases qD.find? (λx=>decide (x.1=s))with
 | none =>
  refine Ae ?_;simp[vZ]
 | some x =>
  simp only[↓vS,vT,simprocAttr,jS];simp[vZ]
def okC(c:GCall):Bool:=qkW c.name&&qmj c.act
def qbi:Option GCall->List GCall->Bool
 | _,[]=>true
 | o,c::l=>okC c&&(o.elim true λb=>ltS b.name c.name)&&qbi (some c) l
def qdf(l:GList):Bool:=decide (l.mode<=2)&&(decide (l.mode≠0)||decide (l.calls=[]))&&qbi none l.calls
def qdV(a b:Nat):ICode:=icJ 33 [52,a,53,b] 7
def qlq(a b:Nat):IFn:=irJ 33 [52,a,53,b] [7] [qdV a b]
def qyF{g1 g2:Nat}(h1:∀s,qa P g1 [.s s] (.b (qkW s)))(h2:∀n,qa P g2 [.i .u32 n] (.b (qmj n)))(l:GList)(hl:l.calls.length<=100000){t':Tr AV}{h':Hp}(hw:Wk 0 t' h' (mkT [(1,.ptr 0 0),(2,.b false)]) (mkH 0 [.cells 0 true false (qbC l)])) :
  S P 0 (qdV g1 g2) (xG [.tmp 2] λv' h'=>Frz h' v' (.b (qbi none l.calls))) t' h':=by
 refine B4 ?_;simp only[qdV,qbC,vI,simprocAttr];refine Ae ?_
 refine SL.loop (α:=Nat) (λj=>[(1,.ptr 0 0),(2,.b false),(20,.fz l.calls.length (rC l.calls)),(21,.i .i64 l.calls.length),(22,.i .i64 j)]) (λ_=>[.cells 0 true false (qbC l)])
  (λj=>j<=l.calls.length/\qbi none l.calls=qbi (if j=0 then none else l.calls[j-1]?) (l.calls.drop j)) (λj=>l.calls.length-j) 0 [0] ?_ ?_ ?_ rfl ?_ ?_
 .simp[vw,ql]
 .simp[vw,qbC]
 .simp
 .exact Ad
 rintro j ⟨hj,hI⟩ G ih;simp only[vI,simprocAttr,qbC]
 by_cases hlt:j<l.calls.length
 .have hx:l.calls[j]?=some l.calls[j]:=Ad
  have he:=qpH hx;have hb:=qng hlt;have hw:=wS j;rw[zzf hlt,qbi]at hI;have hnx:l.calls[j]?=some l.calls[j]:=hx;generalize hc0:l.calls[j]=c at hI he hx;simp only[↓vS,vT,simprocAttr,hlt,hb,he,jI];refine zB ?_;refine Ae ?_;refine(h1 c.name).pc ?_;cases hk:qkW c.name with
  | false =>
   have hw:qbi none l.calls=false:=by rw[hI];simp[okC,hk]
   refine Ae ?_;simp[vZ,hw]
  | true =>
   refine Ae ?_;refine(h2 c.act).pc ?_;cases hac:qmj c.act with
   | false =>
    have hw:qbi none l.calls=false:=by rw[hI];simp[okC,hac]
    refine Ae ?_;simp[vZ,hw]
   | true =>
    have hok:okC c=true:=by simp[okC,hk,hac]
    by_cases h0:j=0
    .subst h0;have hn:¬(0:Int)<((0:Nat):Int):=Af
     refine Sb (zzA hn hw) ?_;refine ih 1 ⟨Ac,?_⟩ Ac _ _ (Wk.mk _ _ [0] ?_ ?_ ?_ rfl)
     .rw[hI,hok];exact Ah
     .simp[vw,ql]
      exact Ad
     .simp[vw,qbC]
     .simp
    .have hp:(0:Int)<(j:Int):=Ac
     have hpl:j-1<l.calls.length:=Ac
     have hy:l.calls[j-1]?=some l.calls[j-1]:=Ad
     have hw2:IntKind.wrap .i64 ((j:Int)-1)=((j-1:Nat):Int):=by rw[qE Ac Ac];exact Ac
     have g0:(rC l.calls)[(j-1)*2]?=some (.s l.calls[j-1].name):=qHy hy (i:=0) Af;rw[if_neg h0,hy]at hI;cases hlt2:ltS l.calls[j-1].name c.name with
     | false =>
      have hwf:qbi none l.calls=false:=by rw[hI];exact Ad
      exact Hl
     | true =>
      simp only[↓vS,vT,simprocAttr,hp,hw2,hpl,g0,hlt2,hw];refine ih (j+1) ⟨Ac,?_⟩ Ac _ _ (Wk.mk _ _ [0] ?_ ?_ ?_ rfl)
      .rw[hI,hok];exact Ad
      .simp[vw,ql]
      .simp[vw,qbC]
      .simp
 .rw[List.drop_of_length_le Ac,qbi]at hI;exact Hg
def qKh{g1 g2:Nat}(hc:Ck P f (qlq g1 g2))(h1:∀s,qa P g1 [.s s] (.b (qkW s)))(h2:∀n,qa P g2 [.i .u32 n] (.b (qmj n)))(l:GList)(hl:l.calls.length<=100000):qa P f [.agg (qbC l)] (.b (qdf l)):=by
 refine Al ?_;simp only[qlq,qbC,vI,simprocAttr]
 by_cases m1:2<l.mode
 .have hw:qdf l=false:=by simp[qdf];exact Ac
  refine Sb m1 ?_;simp[vZ,hw]
 have tail:(l.mode≠0\/l.calls=[])->qdf l=qbi none l.calls:=λh=>by
  have:(decide (l.mode<=2)&&(decide (l.mode≠0)||decide (l.calls=[])))=true:=Ad
  unfold qdf;rw[this];rfl
 by_cases m2:l.mode=0
 .by_cases m3:(0:Int)<l.calls.length
  .have hne:l.calls≠[]:=Ah
   have hw:qdf l=false:=by simp[qdf,m2,hne]
   refine Sb (zzA m1 (zzA m2 m3)) ?_;simp[vZ,hw]
  .have hz:l.calls=[]:=Ad
   rw[tail (.inr hz)];refine Sb (zzA m1 (zzA m2 m3)) ?_;refine qyF h1 h2 l hl (Wk.mk _ _ [0] ?_ ?_ ?_ rfl)
   .simp[vw]
   .simp[vw,qbC,m2]
   .simp
 .rw[tail (.inl m2)];refine Sb (zzA m1 m2) ?_;refine qyF h1 h2 l hl (Wk.mk _ _ [0] ?_ ?_ ?_ rfl)
  .simp[vw]
  .simp[vw,qbC]
  .simp
def qMI(P:Program)(f:Nat):Prop:=∀l:GList,l.calls.length<=100000->qa P f [.agg (qbC l)] (.b (qdf l))
end
section
variable [Cur]
theorem qtv:∀a:List UInt8,ltS a a=false
 | []=>rfl
 | c::x=>by rw[qhG,if_neg (UInt8.lt_irrefl c),if_pos rfl];exact qtv x
theorem qou:∀{a b c:List UInt8},ltS a b=true->ltS b c=true->ltS a c=true
 | _,[],[],_,h2=>Ac
 | _,_::_,[],_,h2=>by simp_all[qm4]
 | [],_,_::_,_,_=>rfl
 | _::_,[],_::_,h1,_=>by simp_all[qm4]
 | a::x,b::y,c::z,h1,h2=>by
  rw[qhG]at h1 h2 ⊢;simp only[UInt8.lt_iff_toNat_lt,<- UInt8.toNat_inj]at h1 h2 ⊢
  by_cases e1:a.toNat<b.toNat
  .exact Ah
  .rw[if_neg e1]at h1;split at h1
   .rename_i e3
    by_cases e2:b.toNat<c.toNat
    .rw[if_pos Ac]
    .rw[if_neg e2]at h2;split at h2
     .rw[if_neg Ac,if_pos Ac];exact qou h1 h2
     .cases h2
   exact Ad
def qGo{a b:List UInt8}(h:ltS a b=true):a≠b:=by
 grind[qtv]
def Up(l:List GCall):Prop:=l.Pairwise λa b=>ltS a.name b.name=true
def qnz:∀(o:Option GCall) (l:List GCall),qbi o l=true↔((∀c ∈ l,okC c=true)/\Up l/\∀b,o=some b->∀c ∈ l,ltS b.name c.name=true)
 | o,[]=>by simp[qbi,Up]
 | o,c::l=>by
  have ih:=qnz (some c) l;simp only[qbi,zzB,ih,Up,List.pairwise_cons,zzc,forall_eq_or_imp];constructor
  .grind[qou]
  .rintro⟨⟨h1,h3⟩,⟨h5,h4⟩,h6⟩;refine⟨⟨h1,?_⟩,h3,h4,?_⟩
   .cases o with
    | none=>rfl
    | some b=>exact(h6 b rfl).1
   exact Ad
def qrk(l:GList):qdf l=true↔(l.mode<=2/\(l.mode≠0\/l.calls=[]))/\(∀c ∈ l.calls,okC c=true)/\Up l.calls:=by
 unfold qdf;rw[zzB,zzB,zzO,zzb,zzb,zzb,qnz];simp
end
section
variable [Cur]
variable {P:Program}{f:Nat}
def qna(a:Asg)(n:GNote):GNote:=⟨a.file,a.line,n.err,n.text⟩
def Rng(l:List GCall):Prop:=∀c ∈ l,0<=c.act/\c.act<=4294967295
def qHz{L:List GCall}{j:Nat}(h:j<L.length)(c:GCall):(rC L).take (j*2)++(AV.s c.name::AV.i .u32 c.act::(rC L).drop (j*2+2))=rC (L.set j c):=by
 have e:j*2+2=(j+1)*2:=Ac
 rw[e,qCW,qCV,List.set_eq_take_append_cons_drop,if_pos h,<- qHx,qCU]
end
end
end Go.Kc
