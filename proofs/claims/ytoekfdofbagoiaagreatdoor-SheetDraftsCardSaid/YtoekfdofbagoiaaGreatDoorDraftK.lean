/- sheet.Draft at this program: a file whose bytes are the draft. No condition. -/
import Derived.Shelf.Strings.BuilderF
import Derived.Lib.OthersKept
import Derived.WalkKit
import Derived.BigCall
import Derived.Handy
import Derived.StillTailTactics
import Derived.KernelRfl
import Derived.Test.YtoekfdofbagoiaaGreatDoorK6
import Derived.Test.YtoekfdofbagoiaaGreatDoorProg
namespace Go.Proofs
open Go.RowKit Go.Shelf Go.Kc
def Tryz.lays166_ren:Go.Shelf.Ren:=⟨fun|166=>10|240=>17|276=>23|n=>n,fun|0=>0|3=>3|4=>4|5=>5|9=>9|20=>20|37=>22|70=>36|72=>38|75=>40|80=>43|164=>75|n=>n,fun n=>n⟩
theorem Tryz.lays166:Lays.n166 Tryz.prog Tryz.lays166_ren:={
 mixed:=(by kernel_rfl),f166:=Tryz.func10.trans (congrArg some (by kernel_rfl)),f240:=Tryz.func17.trans (congrArg some (by kernel_rfl)),f276:=Tryz.func23.trans (congrArg some (by kernel_rfl)),t0:=Tryz.underlying0,a0:=Tryz.isAgg0,z0:=Tryz.sizeOf0,v0:=Tryz.zeroValue0,t3:=Tryz.underlying3,a3:=Tryz.isAgg3,z3:=Tryz.sizeOf3,v3:=Tryz.zeroValue3,t4:=Tryz.underlying4,a4:=Tryz.isAgg4,z4:=Tryz.sizeOf4,v4:=Tryz.zeroValue4,t9:=Tryz.underlying9,a9:=Tryz.isAgg9,z9:=Tryz.sizeOf9,v9:=Tryz.zeroValue9,t20:=Tryz.underlying20,a20:=Tryz.isAgg20,z20:=Tryz.sizeOf20,v20:=Tryz.zeroValue20,t37:=Tryz.underlying22,a37:=Tryz.isAgg22,z37:=Tryz.sizeOf22,v37:=Tryz.zeroValue22,t70:=Tryz.underlying36,a70:=Tryz.isAgg36,z70:=Tryz.sizeOf36,v70:=Tryz.zeroValue36,t72:=Tryz.underlying38,a72:=Tryz.isAgg38,z72:=Tryz.sizeOf38,v72:=Tryz.zeroValue38,t75:=Tryz.underlying40,a75:=Tryz.isAgg40,z75:=Tryz.sizeOf40,v75:=Tryz.zeroValue40,t164:=Tryz.underlying75,a164:=Tryz.isAgg75,z164:=Tryz.sizeOf75,v164:=Tryz.zeroValue75 }
def Tryz.lays169_ren:Go.Shelf.Ren:=⟨fun|169=>11|n=>n,fun|0=>0|3=>3|5=>5|9=>9|37=>22|70=>36|72=>38|127=>59|n=>n,fun n=>n⟩
theorem Tryz.lays169:Lays.n169 Tryz.prog Tryz.lays169_ren:={
 mixed:=(by kernel_rfl),f169:=Tryz.func11.trans (congrArg some (by kernel_rfl)),t0:=Tryz.underlying0,a0:=Tryz.isAgg0,z0:=Tryz.sizeOf0,v0:=Tryz.zeroValue0,t3:=Tryz.underlying3,a3:=Tryz.isAgg3,z3:=Tryz.sizeOf3,v3:=Tryz.zeroValue3,t9:=Tryz.underlying9,a9:=Tryz.isAgg9,z9:=Tryz.sizeOf9,v9:=Tryz.zeroValue9,t37:=Tryz.underlying22,a37:=Tryz.isAgg22,z37:=Tryz.sizeOf22,v37:=Tryz.zeroValue22,t70:=Tryz.underlying36,a70:=Tryz.isAgg36,z70:=Tryz.sizeOf36,v70:=Tryz.zeroValue36,t72:=Tryz.underlying38,a72:=Tryz.isAgg38,z72:=Tryz.sizeOf38,v72:=Tryz.zeroValue38,t127:=Tryz.underlying59,a127:=Tryz.isAgg59,z127:=Tryz.sizeOf59,v127:=Tryz.zeroValue59 }

theorem Tryz.ext166:Builder.Extra Tryz.prog Tryz.lays166_ren where
 sizeBuilder:=by kernel_rfl
 liesBuilder:=by kernel_rfl
 t5:=Tryz.underlying5
 a5:=Tryz.isAgg5
 z5:=Tryz.sizeOf5
 v5:=Tryz.zeroValue5
 infoByte:=by kernel_rfl
 cellsByte:=by kernel_rfl
 sizeByte:=by kernel_rfl
 neB5:=by decide
theorem Tryz.ext169:Builder.Extra Tryz.prog Tryz.lays169_ren where
 sizeBuilder:=by kernel_rfl
 liesBuilder:=by kernel_rfl
 t5:=Tryz.underlying5
 a5:=Tryz.isAgg5
 z5:=Tryz.sizeOf5
 v5:=Tryz.zeroValue5
 infoByte:=by kernel_rfl
 cellsByte:=by kernel_rfl
 sizeByte:=by kernel_rfl
 neB5:=by decide
theorem Tryz.WS(B b:Nat)(bs:List Value)(s:ByteArray)(w:World)(h:Lib.IsBuilderF 38 5 B b bs w)(hlen:bs.length+s.size<=140737488355328)(hBw:B<=w.heap.size) :
  Calls Tryz.prog 10 #[.pointer (some ⟨b,0,none⟩),.string s] w fun e w'=>e = .returned (.tuple #[.int .i64 s.size,.nilIface])∧(Lib.BuilderAtF 38 5 B b (.pointer (some ⟨b,0,none⟩)) (bs++Lib.strCells s) w'∧Below B w w'):=Any.Builder_WriteString_f Tryz.lays166 Tryz.ext166 B b bs s w h hlen hBw
theorem Tryz.ST(B b:Nat)(l:List UInt8)(w:World)(h:Lib.IsBuilderF 38 5 B b (Lib.byteCells l) w)(hBw:B<=w.heap.size) :
  Calls Tryz.prog 11 #[.pointer (some ⟨b,0,none⟩)] w fun e w'=>e = .returned (.string ⟨l.toArray⟩)∧(Lib.IsBuilderF 38 5 B b (Lib.byteCells l) w'∧Below B w w'):=Any.Builder_String_any_f Tryz.lays169 Tryz.ext169 B b l w h hBw
set_option linter.unusedSectionVars false
set_option linter.unusedSimpArgs false
set_option linter.unusedVariables false
variable [Cur]
theorem Tryz.fresh(v:World)(n:Nat)(h:v.heap.size=n):Lib.IsBuilderF 38 5 n n [] (v.alloc (.cells #[.pointer none,.slice none 0 0] 38)):=by subst h;exact .of (Lib.fresh_isBuilder 38 5 v)
set_option maxHeartbeats 4000000 in
set_option maxRecDepth 100000 in
theorem Tryz.draft(hch:∀w,TabOk w->Calls Tryz.prog 9 #[] w fun e w'=>∃(a:Array Value) (φ:Nat->Option (Array Value)),e = .returned (.agg a)∧ChV φ qjY a.toList∧(∀k arr,φ k=some arr->∃ty fz,w'.heap[k]?=some (.cells arr ty fz))∧Bel w.heap.size w w')
  (bk o c:Nat) (b:List UInt8) (w:World) (hT:TabOk w) (hb:∀(j:Nat) x,b[j]?=some x->w.cell? ⟨bk,o+j,none⟩=some (.int .u8 ((x.toNat:Nat):Int))) (hbk:bk<w.heap.size) (hl:b.length<=1500) (hc:b.length<=c) :
   Calls Tryz.prog 5 #[.slice (some ⟨bk,o,none⟩) b.length c] w (qfJ b w):=by
 go_enter Tryz.func5,Tryz.ntmps5
 go_wp2_with (go_at_call 9;refine (hch _ (qmU hT _)).mono ?_)
 rintro e w1 ⟨a,φ,rfl,hv,hrow,hw1⟩;obtain⟨a⟩:=a;have hget:=qiD (xs:=a) hv
 replace hv:ChV φ qjY a:=hv
 unfold qjY at hv;rcases hv with _|⟨_,_,q0,o0,c0,arr0,hq0,hc0,ha0,_,_,hv⟩
 rcases hv with _|⟨_,_,q1,o1,c1,arr1,hq1,hc1,ha1,_,_,hv⟩
 rcases hv with _|⟨_,_,q2,o2,c2,arr2,hq2,hc2,ha2,_,_,hv⟩
 rcases hv with _|⟨_,_,q3,o3,c3,arr3,hq3,hc3,ha3,_,_,hv⟩
 rcases hv with _|⟨_,_,q4,o4,c4,arr4,hq4,hc4,ha4,_,_,hv⟩
 rcases hv with _|⟨_,_,q5,o5,c5,arr5,hq5,hc5,ha5,_,_,hv⟩
 rcases hv with _|⟨_,_,q6,o6,c6,arr6,hq6,hc6,ha6,_,_,hv⟩
 rcases hv with _|⟨_,_,q7,o7,c7,arr7,hq7,hc7,ha7,_,_,hv⟩
 rcases hv with _|_
 simp only[List.length_cons,List.length_nil,Nat.zero_add,Nat.reduceAdd] at *;have hsz:w.heap.size+1<=w1.heap.size:=by have:=hw1.size;simpa using this
 go_wp2_with (go_at_call 10;refine (Tryz.WS (w1.heap.size+1) (w1.heap.size+1) [] _ _ (Tryz.fresh _ _ (by simp)) (by simp[ByteArray.size]) (by simp)).mono ?_)
 rintro e w3 ⟨rfl,hB3,hb3⟩
 have hI3:Lib.IsBuilderF 38 5 (w1.heap.size+1) (w1.heap.size+1) (Lib.byteCells (za (b.take 0))) w3:=by
  rw[List.nil_append,Lib.strCells_eq] at hB3;exact Or.inr hB3
 go_wp2
 go_loopw [12] (fun i wr=>∃k:Nat,k<=b.length∧i = .int .i64 k∧Lib.IsBuilderF 38 5 (w1.heap.size+1) (w1.heap.size+1) (Lib.byteCells (za (b.take k))) wr∧Below (w1.heap.size+1) w3 wr) (fun i _=>b.length-(intOf i).toNat)
 case atStart=>exact⟨0,Nat.zero_le _,rfl,hI3,Below.refl _ _⟩
 case round =>
  obtain⟨k,hk,rfl,hI,hBk⟩:=hrel;have hBw:Below w1.heap.size w1 wr:=((((Below.refl w1.heap.size w1).alloc (Nat.le_refl _) _).alloc (by simp) _).trans (hb3.mono (by omega))).trans (hBk.mono (by omega));clear hch hI3 hB3
  by_cases hkl:k<b.length
  ·obtain⟨x,hx⟩:∃x,b[k]?=some x:=⟨_,List.getElem?_eq_getElem hkl⟩;have hx8:=x.toNat_lt;have hr:x.toNat % 8<8:=Nat.mod_lt _ (by decide);obtain⟨v1,v2,v3,v4⟩:=qew _ hr
   have hrow8:qjY[x.toNat % 8]?=some (qaz (x.toNat % 8)):=by
    unfold qaz;rw[List.getD_eq_getElem?_getD];generalize x.toNat % 8=r at hr
    match r,hr with
    | 0,_|1,_|2,_|3,_|4,_|5,_|6,_|7,_=>rfl
   obtain⟨q,oo,cc,arr,g1,g2,g3,g4,g5⟩:=hget _ _ hrow8;obtain⟨ty,fz,g6⟩:=hrow q arr g1;have hqs:q<w1.heap.size:=(Array.getElem?_eq_some_iff.1 g6).1
   have hxc:wr.cell? ⟨bk,o+k,none⟩=some (.int .u8 ((x.toNat:Nat):Int)):=by
    rw[hBw.cell (p:=⟨bk,o+k,none⟩) (by show bk<_;omega),← hb k x hx];exact World.cell?_of_block (w:=w) ((hw1.block bk (by simp;omega)).trans (Below.heap_alloc _ _ _ hbk))
   have hLA:w3.heap[w1.heap.size]?=some (Obj.cells ⟨_⟩ 34 (0,0)):=(hb3.block _ (by omega)).trans ((Below.heap_alloc _ _ _ (by simp)).trans (heap_alloc_new w1 _))
   have hL0:wr.cell? ⟨w1.heap.size,2*(x.toNat % 8),none⟩=some (.string ⟨(qaz (x.toNat % 8)).1.toArray⟩):=by
    rw[hBk.cell (by show w1.heap.size<_;omega),World.cell?,hLA];simpa using g4
   have hL1:wr.cell? ⟨w1.heap.size,2*(x.toNat % 8)+1,none⟩=some (.slice (some ⟨q,oo,none⟩) (qaz (x.toNat % 8)).2.length cc):=by
    rw[hBk.cell (by show w1.heap.size<_;omega),World.cell?,hLA];simpa using g5
   have hrows:∀(j:Nat) v,(qaz (x.toNat % 8)).2[j]?=some v->wr.cell? ⟨q,oo+j,none⟩=some (.string ⟨v.toArray⟩):=fun j v hj=>by
    rw[hBw.cell (p:=⟨q,oo+j,none⟩) hqs,World.cell?,g6];simpa using g3 j v hj
   rw[Nat.mul_comm] at hL0 hL1;clear hget hrow hLA g1 g3 g4 g5 g6 hrow8
   go_wp2
   have hm:=Nat.mod_lt (x.toNat / 8) v1;obtain⟨y,hy⟩:∃y,(qaz (x.toNat % 8)).2[x.toNat / 8 % (qaz (x.toNat % 8)).2.length]?=some y:=⟨_,List.getElem?_eq_getElem hm⟩;have hyc:=hrows _ y hy;have hyl:y.length<=30:=v4 _ (List.mem_of_getElem? hy);generalize hkey:(qaz (x.toNat % 8)).1=key at *;generalize hvs:(qaz (x.toNat % 8)).2=vs at *;obtain⟨D,hD⟩:∃D:Int,D=((x.toNat / 8:Nat):Int):=⟨_,rfl⟩;obtain⟨M,hM⟩:∃M:Nat,M=x.toNat / 8 % vs.length:=⟨_,rfl⟩;have a1:IntKind.u8.wrap ((x.toNat:Int) / 8)=D:=by rw[qoV (by omega) (by omega)];omega
   have a2:IntKind.i64.wrap D=D:=by rw[qad (by omega) (by omega)]
   have a3:Int.tmod D (vs.length:Int)=(M:Int):=by rw[hD,hM,Int.tmod_eq_emod_of_nonneg (by omega)];rfl
   have a6:D % (vs.length:Int)=(M:Int):=by rw[hD,hM];rfl
   have a4:(vs.length:Int)≠0:=by omega
   have a7:vs.length≠0:=by omega
   rw[← hM] at hm hyc hy;have hT:=qe1 b hl;have hTk:(za (b.take k)).length<=10+k*62:=jx;have hwrs:w1.heap.size+1<wr.heap.size:=by have e1:=hb3.size;have e2:=hBk.size;simp at e1;omega
   obtain⟨wa,hwa⟩:∃wa,wa=wr.alloc (Obj.cells #[Value.string { data:=key.toArray },Value.slice (some { block:=q,off:=oo }) vs.length cc] 33):=⟨_,rfl⟩;have ca0:wa.cell? ⟨wr.heap.size,0,none⟩=some (.string { data:=key.toArray }):=by rw[hwa,World.cell?,heap_alloc_new];rfl
   have ca1:wa.cell? ⟨wr.heap.size,1,none⟩=some (.slice (some { block:=q,off:=oo }) vs.length cc):=by rw[hwa,World.cell?,heap_alloc_new];rfl
   have hyc2:wa.cell? ⟨q,oo+M,none⟩=some (.string ⟨y.toArray⟩):=by
    rw[← hyc,hwa];exact World.cell?_of_block (w:=wr) (Below.heap_alloc wr _ q (by have:=hBw.size;omega))
   have hIa:Lib.IsBuilderF 38 5 (w1.heap.size+1) (w1.heap.size+1) (Lib.byteCells (za (List.take k b))) wa:=hwa ▸ hI.alloc _;have hBa:Below (w1.heap.size+1) wr wa:=hwa ▸ (Below.refl _ wr).alloc (by omega) _;rw[← hwa]
   have hpD:qbK x=key++[61]++y++[10]:=by
    unfold qbK;rw[hkey,hvs,← hM,List.getD_eq_getElem?_getD,hy];rfl
   clear hyc hrows hL0 hL1 hxc hwa hD hM;have s1:¬9223372036854775807<key.length+1:=by omega
   have s2:¬9223372036854775807<key.length+1+y.length:=by omega
   have s3:¬9223372036854775807<key.length+1+y.length+1:=by omega
   go_still_tail 16,(by kernel_rfl)
   change wpList _ _ _ _ _ wa.drew;have hId:Lib.IsBuilderF 38 5 (w1.heap.size+1) (w1.heap.size+1) (Lib.byteCells (za (List.take k b))) wa.drew:=hIa;have hBd:Below (w1.heap.size+1) wr wa.drew:=hBa.drew;have hds:w1.heap.size+1<=wa.drew.heap.size:=by have:=hBa.size;simp;omega
   have hsz2:(Lib.byteCells (za (List.take k b))).length+(({ data:=key.toArray }:ByteArray)++{ data:=#[61] }++{ data:=y.toArray }++{ data:=#[10] }).size<=140737488355328:=by
    rw[Lib.byteCells_length];simp[ByteArray.size];omega
   have hpc:(({ data:=key.toArray }:ByteArray)++{ data:=#[61] }++{ data:=y.toArray }++{ data:=#[10] }).data.toList=qbK x:=by
    rw[hpD];simp
   generalize ({ data:=key.toArray }:ByteArray)++{ data:=#[61] }++{ data:=y.toArray }++{ data:=#[10] }=pc at *;clear hIa hBa ca0 ca1 hyc2;generalize wa.drew=wd at *
   go_wp2_with (go_at_call 10;refine (Tryz.WS (w1.heap.size+1) (w1.heap.size+1) _ _ _ hId hsz2 hds).mono ?_)
   rintro e W1 ⟨rfl,h1,b1⟩
   have h1':Lib.IsBuilderF 38 5 (w1.heap.size+1) (w1.heap.size+1) (Lib.byteCells (za (List.take (k+1) b))) W1:=by
    rw[Lib.strCells_eq,hpc,← Lib.byteCells_append,← qaW hx] at h1;exact Or.inr h1
   go_wp2
   go_roundw
   case rel=>exact⟨k+1,hkl,by simp,h1',hBk.trans (hBd.trans b1)⟩
   case measure=>simp[intOf];omega
  ·have hke:k=b.length:=by omega
   subst hke;rw[List.take_length] at hI
   go_wp2_with (go_at_call 11;refine (Tryz.ST (w1.heap.size+1) (w1.heap.size+1) _ _ hI (by have e1:=hb3.size;have e2:=hBk.size;simp at e1;omega)).mono ?_)
   rintro e W1 ⟨rfl,_,b1⟩
   go_wp2
   have hW1:W1.heap[w.heap.size]?=some (Obj.cells #[Value.string { data:=#[] },Value.int IntKind.i64 0,Value.slice none 0 0] 24 (0,0)) :=
    (b1.block _ (by omega)).trans ((hBw.block _ (by omega)).trans ((hw1.block _ (by simp)).trans (heap_alloc_new w _)))
   have hW1s:w.heap.size<W1.heap.size:=(Array.getElem?_eq_some_iff.1 hW1).1;obtain⟨cp,hcp⟩:∃cp,cp=grownCap W1 (⟨(za b).toArray⟩:ByteArray).size 0 5:=⟨_,rfl⟩;rw[run_bytes_of_string W1 9 22 5 ⟨(za b).toArray⟩ Tryz.underlying9 Tryz.underlying22 Tryz.underlying5,← hcp];obtain⟨Wz,hWz⟩:∃Wz,Wz=W1.drew.alloc (.cells (bytesRow ⟨(za b).toArray⟩ cp) 5 ((bytesRow ⟨(za b).toArray⟩ cp).size,(bytesRow ⟨(za b).toArray⟩ cp).size+1)):=⟨_,rfl⟩;rw[← hWz]
   have hz:Wz.heap[w.heap.size]?=some (Obj.cells #[Value.string { data:=#[] },Value.int IntKind.i64 0,Value.slice none 0 0] 24 (0,0)):=by
    rw[hWz];exact (Below.heap_alloc W1.drew _ _ hW1s).trans hW1
   have hzn:Wz.heap[W1.heap.size]?=some (.cells (bytesRow ⟨(za b).toArray⟩ cp) 5 ((bytesRow ⟨(za b).toArray⟩ cp).size,(bytesRow ⟨(za b).toArray⟩ cp).size+1)):=by
    rw[hWz];exact heap_alloc_new W1.drew _
   have z0:Wz.cell? ⟨w.heap.size,0,none⟩=some (Value.string { data:=#[] }):=by rw[World.cell?,hz];rfl
   have z1:Wz.cell? ⟨w.heap.size,1,none⟩=some (Value.int IntKind.i64 0):=by rw[World.cell?,hz];rfl
   have z2:Wz.cell? ⟨w.heap.size,2,none⟩=some (Value.slice none 0 0):=by rw[World.cell?,hz];rfl
   have y0:Wz.frozen? ⟨w.heap.size,0,none⟩=false:=by rw[World.frozen?,hz];rfl
   have y1:Wz.frozen? ⟨w.heap.size,1,none⟩=false:=by rw[World.frozen?,hz];rfl
   have y2:Wz.frozen? ⟨w.heap.size,2,none⟩=false:=by rw[World.frozen?,hz];rfl
   have hcl:(za b).length<=cp:=by rw[hcp];exact grownCap_ge W1 _ 0 5
   have hBz:Below (w1.heap.size+1) wr Wz:=hWz ▸ (b1.drew.alloc (by have e0:=b1.size;have e1:=hb3.size;have e2:=hBk.size;simp at e1;simp;omega) _)
   clear hWz hcp hz hW1
   go_wp2
   have hA1:w.heap.size<=w1.heap.size:=by omega
   have hA2:w.heap.size<=w1.heap.size+1:=by omega
   have hBf:Below w.heap.size w1 (((Wz.setCell ⟨w.heap.size,0,none⟩ (.string ⟨nmD.toArray⟩)).setCell ⟨w.heap.size,1,none⟩ (.int .i64 0)).setCell ⟨w.heap.size,2,none⟩ (.slice (some ⟨W1.heap.size,0,none⟩) (za b).length cp)) :=
    ((((hBw.mono hA1).trans (hBz.mono hA2)).setCell (Nat.le_refl _) _).setCell (Nat.le_refl _) _).setCell (Nat.le_refl _) _
   have hnew:(((Wz.setCell ⟨w.heap.size,0,none⟩ (.string ⟨nmD.toArray⟩)).setCell ⟨w.heap.size,1,none⟩ (.int .i64 0)).setCell ⟨w.heap.size,2,none⟩ (.slice (some ⟨W1.heap.size,0,none⟩) (za b).length cp)).heap[W1.heap.size]?=Wz.heap[W1.heap.size]?:=by
    rw[Below.heap_setCell,Below.heap_setCell,Below.heap_setCell]
    all_goals (show W1.heap.size≠w.heap.size;omega)
   refine bodyPost_ret (v:=.agg #[.string ⟨nmD.toArray⟩,.int .i64 0,.slice (some ⟨W1.heap.size,0,none⟩) (za b).length cp]) (by simp[results,Tryz.results5,go_sem,z0,z1,z2,nmD]) rfl ?_;refine⟨W1.heap.size,cp,_,_,_,rfl,hcl,by omega,hnew.trans hzn,?_,⟨hBf.os.trans hw1.os,hBf.output.trans hw1.output,?_,fun q hq=>(hBf.block q hq).trans ((hw1.block q (by simp;omega)).trans (Below.heap_alloc _ _ _ hq))⟩⟩
   ·unfold bytesRow bV;simp
   ·have:=hw1.size;have:=hBf.size;simp at *;omega
set_option maxHeartbeats 4000000 in
set_option maxRecDepth 100000 in
theorem Tryz.draft0(hch:∀w,TabOk w->Calls Tryz.prog 9 #[] w fun e w'=>∃(a:Array Value) (φ:Nat->Option (Array Value)),e = .returned (.agg a)∧ChV φ qjY a.toList∧(∀k arr,φ k=some arr->∃ty fz,w'.heap[k]?=some (.cells arr ty fz))∧Bel w.heap.size w w')
  (a0:Option Addr) (c:Nat) (w:World) (hT:TabOk w):Calls Tryz.prog 5 #[.slice a0 0 c] w (qfJ [] w):=by
 go_enter Tryz.func5,Tryz.ntmps5
 go_wp2_with (go_at_call 9;refine (hch _ (qmU hT _)).mono ?_)
 rintro e w1 ⟨a,φ,rfl,hv,hrow,hw1⟩;obtain⟨a⟩:=a
 replace hv:ChV φ qjY a:=hv
 unfold qjY at hv;rcases hv with _|⟨_,_,q0,o0,c0,arr0,hq0,hc0,ha0,_,_,hv⟩
 rcases hv with _|⟨_,_,q1,o1,c1,arr1,hq1,hc1,ha1,_,_,hv⟩
 rcases hv with _|⟨_,_,q2,o2,c2,arr2,hq2,hc2,ha2,_,_,hv⟩
 rcases hv with _|⟨_,_,q3,o3,c3,arr3,hq3,hc3,ha3,_,_,hv⟩
 rcases hv with _|⟨_,_,q4,o4,c4,arr4,hq4,hc4,ha4,_,_,hv⟩
 rcases hv with _|⟨_,_,q5,o5,c5,arr5,hq5,hc5,ha5,_,_,hv⟩
 rcases hv with _|⟨_,_,q6,o6,c6,arr6,hq6,hc6,ha6,_,_,hv⟩
 rcases hv with _|⟨_,_,q7,o7,c7,arr7,hq7,hc7,ha7,_,_,hv⟩
 rcases hv with _|_
 simp only[List.length_cons,List.length_nil,Nat.zero_add,Nat.reduceAdd] at *;have hsz:w.heap.size+1<=w1.heap.size:=by have:=hw1.size;simpa using this
 go_wp2_with (go_at_call 10;refine (Tryz.WS (w1.heap.size+1) (w1.heap.size+1) [] _ _ (Tryz.fresh _ _ (by simp)) (by simp[ByteArray.size]) (by simp)).mono ?_)
 rintro e w3 ⟨rfl,hB3,hb3⟩
 have hI3:Lib.IsBuilderF 38 5 (w1.heap.size+1) (w1.heap.size+1) (Lib.byteCells (za [])) w3:=by
  rw[List.nil_append,Lib.strCells_eq] at hB3;exact Or.inr hB3
 go_wp2
 go_loopw [12] (fun i wr=>i = .int .i64 0∧wr=w3) (fun _ _=>0)
 case atStart=>exact⟨rfl,rfl⟩
 case round =>
  obtain⟨rfl,rfl⟩:=hrel;have hBw:Below w1.heap.size w1 wr:=(((Below.refl w1.heap.size w1).alloc (Nat.le_refl _) _).alloc (by simp) _).trans (hb3.mono (by omega));have hI:=hI3;have hBk:Below (w1.heap.size+1) wr wr:=Below.refl _ _
  go_wp2_with (go_at_call 11;refine (Tryz.ST (w1.heap.size+1) (w1.heap.size+1) _ _ hI (by have e1:=hb3.size;have e2:=hBk.size;simp at e1;omega)).mono ?_)
  rintro e W1 ⟨rfl,_,b1⟩
  go_wp2
  have hW1:W1.heap[w.heap.size]?=some (Obj.cells #[Value.string { data:=#[] },Value.int IntKind.i64 0,Value.slice none 0 0] 24 (0,0)) :=
   (b1.block _ (by omega)).trans ((hBw.block _ (by omega)).trans ((hw1.block _ (by simp)).trans (heap_alloc_new w _)))
  have hW1s:w.heap.size<W1.heap.size:=(Array.getElem?_eq_some_iff.1 hW1).1;obtain⟨cp,hcp⟩:∃cp,cp=grownCap W1 (⟨(za []).toArray⟩:ByteArray).size 0 5:=⟨_,rfl⟩;rw[run_bytes_of_string W1 9 22 5 ⟨(za []).toArray⟩ Tryz.underlying9 Tryz.underlying22 Tryz.underlying5,← hcp];obtain⟨Wz,hWz⟩:∃Wz,Wz=W1.drew.alloc (.cells (bytesRow ⟨(za []).toArray⟩ cp) 5 ((bytesRow ⟨(za []).toArray⟩ cp).size,(bytesRow ⟨(za []).toArray⟩ cp).size+1)):=⟨_,rfl⟩;rw[← hWz]
  have hz:Wz.heap[w.heap.size]?=some (Obj.cells #[Value.string { data:=#[] },Value.int IntKind.i64 0,Value.slice none 0 0] 24 (0,0)):=by
   rw[hWz];exact (Below.heap_alloc W1.drew _ _ hW1s).trans hW1
  have hzn:Wz.heap[W1.heap.size]?=some (.cells (bytesRow ⟨(za []).toArray⟩ cp) 5 ((bytesRow ⟨(za []).toArray⟩ cp).size,(bytesRow ⟨(za []).toArray⟩ cp).size+1)):=by
   rw[hWz];exact heap_alloc_new W1.drew _
  have z0:Wz.cell? ⟨w.heap.size,0,none⟩=some (Value.string { data:=#[] }):=by rw[World.cell?,hz];rfl
  have z1:Wz.cell? ⟨w.heap.size,1,none⟩=some (Value.int IntKind.i64 0):=by rw[World.cell?,hz];rfl
  have z2:Wz.cell? ⟨w.heap.size,2,none⟩=some (Value.slice none 0 0):=by rw[World.cell?,hz];rfl
  have y0:Wz.frozen? ⟨w.heap.size,0,none⟩=false:=by rw[World.frozen?,hz];rfl
  have y1:Wz.frozen? ⟨w.heap.size,1,none⟩=false:=by rw[World.frozen?,hz];rfl
  have y2:Wz.frozen? ⟨w.heap.size,2,none⟩=false:=by rw[World.frozen?,hz];rfl
  have hcl:(za []).length<=cp:=by rw[hcp];exact grownCap_ge W1 _ 0 5
  have hBz:Below (w1.heap.size+1) wr Wz:=hWz ▸ (b1.drew.alloc (by have e0:=b1.size;have e1:=hb3.size;have e2:=hBk.size;simp at e1;simp;omega) _)
  clear hWz hcp hz hW1
  go_wp2
  have hA1:w.heap.size<=w1.heap.size:=by omega
  have hA2:w.heap.size<=w1.heap.size+1:=by omega
  have hBf:Below w.heap.size w1 (((Wz.setCell ⟨w.heap.size,0,none⟩ (.string ⟨nmD.toArray⟩)).setCell ⟨w.heap.size,1,none⟩ (.int .i64 0)).setCell ⟨w.heap.size,2,none⟩ (.slice (some ⟨W1.heap.size,0,none⟩) (za []).length cp)) :=
   ((((hBw.mono hA1).trans (hBz.mono hA2)).setCell (Nat.le_refl _) _).setCell (Nat.le_refl _) _).setCell (Nat.le_refl _) _
  have hnew:(((Wz.setCell ⟨w.heap.size,0,none⟩ (.string ⟨nmD.toArray⟩)).setCell ⟨w.heap.size,1,none⟩ (.int .i64 0)).setCell ⟨w.heap.size,2,none⟩ (.slice (some ⟨W1.heap.size,0,none⟩) (za []).length cp)).heap[W1.heap.size]?=Wz.heap[W1.heap.size]?:=by
   rw[Below.heap_setCell,Below.heap_setCell,Below.heap_setCell]
   all_goals (show W1.heap.size≠w.heap.size;omega)
  refine bodyPost_ret (v:=.agg #[.string ⟨nmD.toArray⟩,.int .i64 0,.slice (some ⟨W1.heap.size,0,none⟩) (za []).length cp]) (by simp[results,Tryz.results5,go_sem,z0,z1,z2,nmD]) rfl ?_;refine⟨W1.heap.size,cp,_,_,_,rfl,hcl,by omega,hnew.trans hzn,?_,⟨hBf.os.trans hw1.os,hBf.output.trans hw1.output,?_,fun q hq=>(hBf.block q hq).trans ((hw1.block q (by simp;omega)).trans (Below.heap_alloc _ _ _ hq))⟩⟩
  ·unfold bytesRow bV;simp
  ·have:=hw1.size;have:=hBf.size;simp at *;omega
theorem Tryz.draftC(hp:qX Tryz.prog 9 [] (.agg (qcr qjY))):qdI Tryz.prog 5 :=
 qmB ⟨_,Tryz.func5,by first|kernel_rfl|decide,rfl⟩
  ⟨fun a c w hT=>Tryz.draft0 (fun w hT=>qhY hp ⟨_,Tryz.func9,by first|kernel_rfl|decide,rfl⟩ w hT) a c w hT,
   fun bk o c b w hT h1 h2 h3 h4=>Tryz.draft (fun w hT=>qhY hp ⟨_,Tryz.func9,by first|kernel_rfl|decide,rfl⟩ w hT) bk o c b w hT h1 h2 h3 h4⟩
end Go.Proofs
