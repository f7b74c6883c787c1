/- sheet.Draft at this program: a file whose bytes are the draft. No condition. -/
import Derived.Shelf.Strings.BuilderF
import Derived.Lib.OthersKept
import Derived.WalkKit
import Derived.BigCall
import Derived.Handy
import Derived.StillTailTactics
import Derived.KernelRfl
import Derived.Test.YtjllccjpflmjfaaGreatDoorVK6
import Derived.Test.YtjllccjpflmjfaaGreatDoorProg
namespace Go.Proofs
open Go.RowKit Go.Shelf Go.Kc
def Tryz.lays166_ren:Go.Shelf.Ren:=⟨fun|166=>36|240=>55|276=>83|n=>n,fun|0=>0|3=>3|4=>4|5=>5|9=>9|20=>20|37=>50|70=>84|72=>86|75=>88|80=>60|164=>168|n=>n,fun n=>n⟩
theorem Tryz.lays166:Lays.n166 Tryz.prog Tryz.lays166_ren:={
 mixed:=Aa,f166:=Tryz.func36.trans (congrArg some Aa),f240:=Tryz.func55.trans (congrArg some Aa),f276:=Tryz.func83.trans (congrArg some Aa),t0:=Tryz.underlying0,a0:=Tryz.isAgg0,z0:=Tryz.sizeOf0,v0:=Tryz.zeroValue0,t3:=Tryz.underlying3,a3:=Tryz.isAgg3,z3:=Tryz.sizeOf3,v3:=Tryz.zeroValue3,t4:=Tryz.underlying4,a4:=Tryz.isAgg4,z4:=Tryz.sizeOf4,v4:=Tryz.zeroValue4,t9:=Tryz.underlying9,a9:=Tryz.isAgg9,z9:=Tryz.sizeOf9,v9:=Tryz.zeroValue9,t20:=Tryz.underlying20,a20:=Tryz.isAgg20,z20:=Tryz.sizeOf20,v20:=Tryz.zeroValue20,t37:=Tryz.underlying50,a37:=Tryz.isAgg50,z37:=Tryz.sizeOf50,v37:=Tryz.zeroValue50,t70:=Tryz.underlying84,a70:=Tryz.isAgg84,z70:=Tryz.sizeOf84,v70:=Tryz.zeroValue84,t72:=Tryz.underlying86,a72:=Tryz.isAgg86,z72:=Tryz.sizeOf86,v72:=Tryz.zeroValue86,t75:=Tryz.underlying88,a75:=Tryz.isAgg88,z75:=Tryz.sizeOf88,v75:=Tryz.zeroValue88,t164:=Tryz.underlying168,a164:=Tryz.isAgg168,z164:=Tryz.sizeOf168,v164:=Tryz.zeroValue168 }
def Tryz.lays169_ren:Go.Shelf.Ren:=⟨fun|169=>37|n=>n,fun|0=>0|3=>3|5=>5|9=>9|37=>50|70=>84|72=>86|127=>125|n=>n,fun n=>n⟩
theorem Tryz.lays169:Lays.n169 Tryz.prog Tryz.lays169_ren:={
 mixed:=Aa,f169:=Tryz.func37.trans (congrArg some Aa),t0:=Tryz.underlying0,a0:=Tryz.isAgg0,z0:=Tryz.sizeOf0,v0:=Tryz.zeroValue0,t3:=Tryz.underlying3,a3:=Tryz.isAgg3,z3:=Tryz.sizeOf3,v3:=Tryz.zeroValue3,t9:=Tryz.underlying9,a9:=Tryz.isAgg9,z9:=Tryz.sizeOf9,v9:=Tryz.zeroValue9,t37:=Tryz.underlying50,a37:=Tryz.isAgg50,z37:=Tryz.sizeOf50,v37:=Tryz.zeroValue50,t70:=Tryz.underlying84,a70:=Tryz.isAgg84,z70:=Tryz.sizeOf84,v70:=Tryz.zeroValue84,t72:=Tryz.underlying86,a72:=Tryz.isAgg86,z72:=Tryz.sizeOf86,v72:=Tryz.zeroValue86,t127:=Tryz.underlying125,a127:=Tryz.isAgg125,z127:=Tryz.sizeOf125,v127:=Tryz.zeroValue125 }

theorem Tryz.ext166:Builder.Extra Tryz.prog Tryz.lays166_ren where
 sizeBuilder:=Aa
 liesBuilder:=Aa
 t5:=Tryz.underlying5
 a5:=Tryz.isAgg5
 z5:=Tryz.sizeOf5
 v5:=Tryz.zeroValue5
 infoByte:=Aa
 cellsByte:=Aa
 sizeByte:=Aa
 neB5:=Af
theorem Tryz.ext169:Builder.Extra Tryz.prog Tryz.lays169_ren where
 sizeBuilder:=Aa
 liesBuilder:=Aa
 t5:=Tryz.underlying5
 a5:=Tryz.isAgg5
 z5:=Tryz.sizeOf5
 v5:=Tryz.zeroValue5
 infoByte:=Aa
 cellsByte:=Aa
 sizeByte:=Aa
 neB5:=Af
theorem Tryz.WS(B b:Nat)(bs:List Value)(s:ByteArray)(w:World)(h:Lib.IsBuilderF 86 5 B b bs w)(hlen:bs.length+s.size<=140737488355328)(hBw:B<=w.heap.size) :
  Calls Tryz.prog 36 #[.pointer (some ⟨b,0,none⟩),.string s] w fun e w'=>e = .returned (.tuple #[.int .i64 s.size,.nilIface])∧(Lib.BuilderAtF 86 5 B b (.pointer (some ⟨b,0,none⟩)) (bs++Lib.strCells s) w'∧Below B w w'):=Any.Builder_WriteString_f Tryz.lays166 Tryz.ext166 B b bs s w h hlen hBw
theorem Tryz.ST(B b:Nat)(l:List UInt8)(w:World)(h:Lib.IsBuilderF 86 5 B b (Lib.byteCells l) w)(hBw:B<=w.heap.size) :
  Calls Tryz.prog 37 #[.pointer (some ⟨b,0,none⟩)] w fun e w'=>e = .returned (.string ⟨l.toArray⟩)∧(Lib.IsBuilderF 86 5 B b (Lib.byteCells l) w'∧Below B w w'):=Any.Builder_String_any_f Tryz.lays169 Tryz.ext169 B b l w h hBw
set_option linter.unusedSectionVars false
set_option linter.unusedSimpArgs false
set_option linter.unusedVariables false
variable [Cur]
theorem Tryz.fresh(v:World)(n:Nat)(h:v.heap.size=n):Lib.IsBuilderF 86 5 n n [] (v.alloc (.cells #[.pointer none,.slice none 0 0] 86)):=by subst h;exact .of (Lib.fresh_isBuilder 86 5 v)
set_option maxHeartbeats 4000000 in
set_option maxRecDepth 100000 in
theorem Tryz.draft(hch:∀w,TabOk w->Calls Tryz.prog 35 #[] w fun e w'=>∃(a:Array Value) (φ:Nat->Option (Array Value)),e = .returned (.agg a)∧ChV φ qDv a.toList∧(∀k arr,φ k=some arr->∃ty fz,w'.heap[k]?=some (.cells arr ty fz))∧Bel w.heap.size w w')
  (bk o c:Nat) (b:List UInt8) (w:World) (hT:TabOk w) (hb:∀(j:Nat) x,b[j]?=some x->w.cell? ⟨bk,o+j,none⟩=some (.int .u8 ((x.toNat:Nat):Int))) (hbk:bk<w.heap.size) (hl:b.length<=1500) (hc:b.length<=c) :
   Calls Tryz.prog 16 #[.slice (some ⟨bk,o,none⟩) b.length c] w (qv4 b w):=by
 go_enter Tryz.func16,Tryz.ntmps16
 go_wp2_with (go_at_call 35;refine (hch _ (qIU hT _)).mono ?_)
 rintro e w1 ⟨a,φ,rfl,hv,hrow,hw1⟩;obtain⟨a⟩:=a;have hget:=qBj (xs:=a) hv
 replace hv:ChV φ qDv a:=hv
 unfold qDv at hv;rcases hv with _|⟨_,_,q0,o0,c0,arr0,hq0,hc0,ha0,_,_,hv⟩
 rcases hv with _|⟨_,_,q1,o1,c1,arr1,hq1,hc1,ha1,_,_,hv⟩
 rcases hv with _|⟨_,_,q2,o2,c2,arr2,hq2,hc2,ha2,_,_,hv⟩
 rcases hv with _|⟨_,_,q3,o3,c3,arr3,hq3,hc3,ha3,_,_,hv⟩
 rcases hv with _|⟨_,_,q4,o4,c4,arr4,hq4,hc4,ha4,_,_,hv⟩
 rcases hv with _|⟨_,_,q5,o5,c5,arr5,hq5,hc5,ha5,_,_,hv⟩
 rcases hv with _|⟨_,_,q6,o6,c6,arr6,hq6,hc6,ha6,_,_,hv⟩
 rcases hv with _|⟨_,_,q7,o7,c7,arr7,hq7,hc7,ha7,_,_,hv⟩
 rcases hv with _|_
 simp only[List.length_cons,List.length_nil,Nat.zero_add,Nat.reduceAdd] at *;have hsz:w.heap.size+1<=w1.heap.size:=by have:=hw1.size;exact D0
 go_wp2_with (go_at_call 36;refine (Tryz.WS (w1.heap.size+1) (w1.heap.size+1) [] _ _ (Tryz.fresh _ _ (by simp)) Eh (by simp)).mono ?_)
 rintro e w3 ⟨rfl,hB3,hb3⟩
 have hI3:Lib.IsBuilderF 86 5 (w1.heap.size+1) (w1.heap.size+1) (Lib.byteCells (qc8 (b.take 0))) w3:=Fm
 go_wp2
 go_loopw [12] (fun i wr=>∃k:Nat,k<=b.length∧i = .int .i64 k∧Lib.IsBuilderF 86 5 (w1.heap.size+1) (w1.heap.size+1) (Lib.byteCells (qc8 (b.take k))) wr∧Below (w1.heap.size+1) w3 wr) (fun i _=>b.length-(intOf i).toNat)
 case atStart=>exact⟨0,Nat.zero_le _,rfl,hI3,Below.refl _ _⟩
 case round =>
  obtain⟨k,hk,rfl,hI,hBk⟩:=hrel;have hBw:Below w1.heap.size w1 wr:=((((Below.refl w1.heap.size w1).alloc (Nat.le_refl _) _).alloc (by simp) _).trans (hb3.mono Ac)).trans (hBk.mono Ac);clear hch hI3 hB3
  by_cases hkl:k<b.length
  ·obtain⟨x,hx⟩:∃x,b[k]?=some x:=⟨_,List.getElem?_eq_getElem hkl⟩;have hx8:=x.toNat_lt;have hr:x.toNat % 8<8:=Nat.mod_lt _ Af;obtain⟨v1,v2,v3,v4⟩:=qDf _ hr
   have hrow8:qDv[x.toNat % 8]?=some (qpO (x.toNat % 8)):=by
    unfold qpO;rw[List.getD_eq_getElem?_getD];generalize x.toNat % 8=r at hr
    match r,hr with
    | 0,_|1,_|2,_|3,_|4,_|5,_|6,_|7,_=>rfl
   obtain⟨q,oo,cc,arr,g1,g2,g3,g4,g5⟩:=hget _ _ hrow8;obtain⟨ty,fz,g6⟩:=hrow q arr g1;have hqs:q<w1.heap.size:=(Array.getElem?_eq_some_iff.1 g6).1
   have hxc:wr.cell? ⟨bk,o+k,none⟩=some (.int .u8 ((x.toNat:Nat):Int)):=by
    rw[hBw.cell (p:=⟨bk,o+k,none⟩) (by show bk<_;exact Ac),← hb k x hx];exact World.cell?_of_block (w:=w) ((hw1.block bk (by simp;exact Ac)).trans (Below.heap_alloc _ _ _ hbk))
   have hLA:w3.heap[w1.heap.size]?=some (Obj.cells ⟨_⟩ 82 (0,0)):=(hb3.block _ Ac).trans ((Below.heap_alloc _ _ _ (by simp)).trans (heap_alloc_new w1 _))
   have hL0:wr.cell? ⟨w1.heap.size,2*(x.toNat % 8),none⟩=some (.string ⟨(qpO (x.toNat % 8)).1.toArray⟩):=by
    rw[hBk.cell (by show w1.heap.size<_;exact Ac),World.cell?,hLA];simpa using g4
   have hL1:wr.cell? ⟨w1.heap.size,2*(x.toNat % 8)+1,none⟩=some (.slice (some ⟨q,oo,none⟩) (qpO (x.toNat % 8)).2.length cc):=by
    rw[hBk.cell (by show w1.heap.size<_;exact Ac),World.cell?,hLA];simpa using g5
   have hrows:∀(j:Nat) v,(qpO (x.toNat % 8)).2[j]?=some v->wr.cell? ⟨q,oo+j,none⟩=some (.string ⟨v.toArray⟩):=fun j v hj=>by
    rw[hBw.cell (p:=⟨q,oo+j,none⟩) hqs,World.cell?,g6];simpa using g3 j v hj
   rw[Nat.mul_comm] at hL0 hL1;clear hget hrow hLA g1 g3 g4 g5 g6 hrow8
   go_wp2
   have hm:=Nat.mod_lt (x.toNat / 8) v1;obtain⟨y,hy⟩:∃y,(qpO (x.toNat % 8)).2[x.toNat / 8 % (qpO (x.toNat % 8)).2.length]?=some y:=⟨_,List.getElem?_eq_getElem hm⟩;have hyc:=hrows _ y hy;have hyl:y.length<=30:=v4 _ (List.mem_of_getElem? hy);generalize hkey:(qpO (x.toNat % 8)).1=key at *;generalize hvs:(qpO (x.toNat % 8)).2=vs at *;obtain⟨D,hD⟩:∃D:Int,D=((x.toNat / 8:Nat):Int):=⟨_,rfl⟩;obtain⟨M,hM⟩:∃M:Nat,M=x.toNat / 8 % vs.length:=⟨_,rfl⟩;have a1:IntKind.u8.wrap ((x.toNat:Int) / 8)=D:=by rw[qAl Ac Ac];exact Ac
   have a2:IntKind.i64.wrap D=D:=by rw[qE Ac Ac]
   have a3:Int.tmod D (vs.length:Int)=(M:Int):=by rw[hD,hM,Int.tmod_eq_emod_of_nonneg Ac];rfl
   have a6:D % (vs.length:Int)=(M:Int):=by rw[hD,hM];rfl
   have a4:(vs.length:Int)≠0:=Ac
   have a7:vs.length≠0:=Ac
   rw[← hM] at hm hyc hy;have hT:=qIp b hl;have hTk:(qc8 (b.take k)).length<=10+k*62:=qi6;have hwrs:w1.heap.size+1<wr.heap.size:=by have e1:=hb3.size;have e2:=hBk.size;simp at e1;exact Ac
   obtain⟨wa,hwa⟩:∃wa,wa=wr.alloc (Obj.cells #[Value.string { data:=key.toArray },Value.slice (some { block:=q,off:=oo }) vs.length cc] 81):=⟨_,rfl⟩;have ca0:wa.cell? ⟨wr.heap.size,0,none⟩=some (.string { data:=key.toArray }):=Ie
   have ca1:wa.cell? ⟨wr.heap.size,1,none⟩=some (.slice (some { block:=q,off:=oo }) vs.length cc):=Ie
   have hyc2:wa.cell? ⟨q,oo+M,none⟩=some (.string ⟨y.toArray⟩):=by
    rw[← hyc,hwa];exact World.cell?_of_block (w:=wr) (Below.heap_alloc wr _ q (by have:=hBw.size;exact Ac))
   have hIa:Lib.IsBuilderF 86 5 (w1.heap.size+1) (w1.heap.size+1) (Lib.byteCells (qc8 (List.take k b))) wa:=hwa ▸ hI.alloc _;have hBa:Below (w1.heap.size+1) wr wa:=hwa ▸ (Below.refl _ wr).alloc Ac _;rw[← hwa]
   have hpD:qpE x=key++[61]++y++[10]:=by
    unfold qpE;rw[hkey,hvs,← hM,List.getD_eq_getElem?_getD,hy];rfl
   clear hyc hrows hL0 hL1 hxc hwa hD hM;have s1:¬9223372036854775807<key.length+1:=Ac
   have s2:¬9223372036854775807<key.length+1+y.length:=Ac
   have s3:¬9223372036854775807<key.length+1+y.length+1:=Ac
   go_still_tail 16,Aa
   change wpList _ _ _ _ _ wa.drew;have hId:Lib.IsBuilderF 86 5 (w1.heap.size+1) (w1.heap.size+1) (Lib.byteCells (qc8 (List.take k b))) wa.drew:=hIa;have hBd:Below (w1.heap.size+1) wr wa.drew:=hBa.drew;have hds:w1.heap.size+1<=wa.drew.heap.size:=by have:=hBa.size;simp;exact Ac
   have hsz2:(Lib.byteCells (qc8 (List.take k b))).length+(({ data:=key.toArray }:ByteArray)++{ data:=#[61] }++{ data:=y.toArray }++{ data:=#[10] }).size<=140737488355328:=by
    rw[Lib.byteCells_length];simp[ByteArray.size];exact Ac
   have hpc:(({ data:=key.toArray }:ByteArray)++{ data:=#[61] }++{ data:=y.toArray }++{ data:=#[10] }).data.toList=qpE x:=by
    rw[hpD];simp
   generalize ({ data:=key.toArray }:ByteArray)++{ data:=#[61] }++{ data:=y.toArray }++{ data:=#[10] }=pc at *;clear hIa hBa ca0 ca1 hyc2;generalize wa.drew=wd at *
   go_wp2_with (go_at_call 36;refine (Tryz.WS (w1.heap.size+1) (w1.heap.size+1) _ _ _ hId hsz2 hds).mono ?_)
   rintro e W1 ⟨rfl,h1,b1⟩
   have h1':Lib.IsBuilderF 86 5 (w1.heap.size+1) (w1.heap.size+1) (Lib.byteCells (qc8 (List.take (k+1) b))) W1:=by
    rw[Lib.strCells_eq,hpc,← Lib.byteCells_append,← qqC hx] at h1;exact Or.inr h1
   go_wp2
   go_roundw
   case rel=>exact⟨k+1,hkl,by simp,h1',hBk.trans (hBd.trans b1)⟩
   case measure=>simp[intOf];omega
  ·have hke:k=b.length:=Ac
   subst hke;rw[List.take_length] at hI
   go_wp2_with (go_at_call 37;refine (Tryz.ST (w1.heap.size+1) (w1.heap.size+1) _ _ hI (by have e1:=hb3.size;have e2:=hBk.size;simp at e1;exact Ac)).mono ?_)
   rintro e W1 ⟨rfl,_,b1⟩
   go_wp2
   have hW1:W1.heap[w.heap.size]?=some (Obj.cells #[Value.string { data:=#[] },Value.int IntKind.i64 0,Value.slice none 0 0] 52 (0,0)) :=
    (b1.block _ Ac).trans ((hBw.block _ Ac).trans ((hw1.block _ (by simp)).trans (heap_alloc_new w _)))
   have hW1s:w.heap.size<W1.heap.size:=(Array.getElem?_eq_some_iff.1 hW1).1;obtain⟨cp,hcp⟩:∃cp,cp=grownCap W1 (⟨(qc8 b).toArray⟩:ByteArray).size 0 5:=⟨_,rfl⟩;rw[run_bytes_of_string W1 9 50 5 ⟨(qc8 b).toArray⟩ Tryz.underlying9 Tryz.underlying50 Tryz.underlying5,← hcp];obtain⟨Wz,hWz⟩:∃Wz,Wz=W1.drew.alloc (.cells (bytesRow ⟨(qc8 b).toArray⟩ cp) 5 ((bytesRow ⟨(qc8 b).toArray⟩ cp).size,(bytesRow ⟨(qc8 b).toArray⟩ cp).size+1)):=⟨_,rfl⟩;rw[← hWz]
   have hz:Wz.heap[w.heap.size]?=some (Obj.cells #[Value.string { data:=#[] },Value.int IntKind.i64 0,Value.slice none 0 0] 52 (0,0)):=Ff
   have hzn:Wz.heap[W1.heap.size]?=some (.cells (bytesRow ⟨(qc8 b).toArray⟩ cp) 5 ((bytesRow ⟨(qc8 b).toArray⟩ cp).size,(bytesRow ⟨(qc8 b).toArray⟩ cp).size+1)):=Hn
   have z0:Wz.cell? ⟨w.heap.size,0,none⟩=some (Value.string { data:=#[] }):=Dn
   have z1:Wz.cell? ⟨w.heap.size,1,none⟩=some (Value.int IntKind.i64 0):=Dn
   have z2:Wz.cell? ⟨w.heap.size,2,none⟩=some (Value.slice none 0 0):=Dn
   have y0:Wz.frozen? ⟨w.heap.size,0,none⟩=false:=Da
   have y1:Wz.frozen? ⟨w.heap.size,1,none⟩=false:=Da
   have y2:Wz.frozen? ⟨w.heap.size,2,none⟩=false:=Da
   have hcl:(qc8 b).length<=cp:=by rw[hcp];exact grownCap_ge W1 _ 0 5
   have hBz:Below (w1.heap.size+1) wr Wz:=hWz ▸ (b1.drew.alloc (by have e0:=b1.size;have e1:=hb3.size;have e2:=hBk.size;simp at e1;simp;exact Ac) _)
   clear hWz hcp hz hW1
   go_wp2
   have hA1:w.heap.size<=w1.heap.size:=Ac
   have hA2:w.heap.size<=w1.heap.size+1:=Ac
   have hBf:Below w.heap.size w1 (((Wz.setCell ⟨w.heap.size,0,none⟩ (.string ⟨nmD.toArray⟩)).setCell ⟨w.heap.size,1,none⟩ (.int .i64 0)).setCell ⟨w.heap.size,2,none⟩ (.slice (some ⟨W1.heap.size,0,none⟩) (qc8 b).length cp)) :=
    ((((hBw.mono hA1).trans (hBz.mono hA2)).setCell (Nat.le_refl _) _).setCell (Nat.le_refl _) _).setCell (Nat.le_refl _) _
   have hnew:(((Wz.setCell ⟨w.heap.size,0,none⟩ (.string ⟨nmD.toArray⟩)).setCell ⟨w.heap.size,1,none⟩ (.int .i64 0)).setCell ⟨w.heap.size,2,none⟩ (.slice (some ⟨W1.heap.size,0,none⟩) (qc8 b).length cp)).heap[W1.heap.size]?=Wz.heap[W1.heap.size]?:=C5
   refine bodyPost_ret (v:=.agg #[.string ⟨nmD.toArray⟩,.int .i64 0,.slice (some ⟨W1.heap.size,0,none⟩) (qc8 b).length cp]) Gv rfl ?_;refine⟨W1.heap.size,cp,_,_,_,rfl,hcl,Ac,hnew.trans hzn,?_,⟨hBf.os.trans hw1.os,hBf.output.trans hw1.output,?_,fun q hq=>(hBf.block q hq).trans ((hw1.block q (by simp;exact Ac)).trans (Below.heap_alloc _ _ _ hq))⟩⟩
   ·unfold bytesRow bV;simp
   ·have:=hw1.size;have:=hBf.size;simp at *;omega
set_option maxHeartbeats 4000000 in
set_option maxRecDepth 100000 in
theorem Tryz.draft0(hch:∀w,TabOk w->Calls Tryz.prog 35 #[] w fun e w'=>∃(a:Array Value) (φ:Nat->Option (Array Value)),e = .returned (.agg a)∧ChV φ qDv a.toList∧(∀k arr,φ k=some arr->∃ty fz,w'.heap[k]?=some (.cells arr ty fz))∧Bel w.heap.size w w')
  (a0:Option Addr) (c:Nat) (w:World) (hT:TabOk w):Calls Tryz.prog 16 #[.slice a0 0 c] w (qv4 [] w):=by
 go_enter Tryz.func16,Tryz.ntmps16
 go_wp2_with (go_at_call 35;refine (hch _ (qIU hT _)).mono ?_)
 rintro e w1 ⟨a,φ,rfl,hv,hrow,hw1⟩;obtain⟨a⟩:=a
 replace hv:ChV φ qDv a:=hv
 unfold qDv at hv;rcases hv with _|⟨_,_,q0,o0,c0,arr0,hq0,hc0,ha0,_,_,hv⟩
 rcases hv with _|⟨_,_,q1,o1,c1,arr1,hq1,hc1,ha1,_,_,hv⟩
 rcases hv with _|⟨_,_,q2,o2,c2,arr2,hq2,hc2,ha2,_,_,hv⟩
 rcases hv with _|⟨_,_,q3,o3,c3,arr3,hq3,hc3,ha3,_,_,hv⟩
 rcases hv with _|⟨_,_,q4,o4,c4,arr4,hq4,hc4,ha4,_,_,hv⟩
 rcases hv with _|⟨_,_,q5,o5,c5,arr5,hq5,hc5,ha5,_,_,hv⟩
 rcases hv with _|⟨_,_,q6,o6,c6,arr6,hq6,hc6,ha6,_,_,hv⟩
 rcases hv with _|⟨_,_,q7,o7,c7,arr7,hq7,hc7,ha7,_,_,hv⟩
 rcases hv with _|_
 simp only[List.length_cons,List.length_nil,Nat.zero_add,Nat.reduceAdd] at *;have hsz:w.heap.size+1<=w1.heap.size:=by have:=hw1.size;exact D0
 go_wp2_with (go_at_call 36;refine (Tryz.WS (w1.heap.size+1) (w1.heap.size+1) [] _ _ (Tryz.fresh _ _ (by simp)) Eh (by simp)).mono ?_)
 rintro e w3 ⟨rfl,hB3,hb3⟩
 have hI3:Lib.IsBuilderF 86 5 (w1.heap.size+1) (w1.heap.size+1) (Lib.byteCells (qc8 [])) w3:=Fm
 go_wp2
 go_loopw [12] (fun i wr=>i = .int .i64 0∧wr=w3) (fun _ _=>0)
 case atStart=>exact⟨rfl,rfl⟩
 case round =>
  obtain⟨rfl,rfl⟩:=hrel;have hBw:Below w1.heap.size w1 wr:=(((Below.refl w1.heap.size w1).alloc (Nat.le_refl _) _).alloc (by simp) _).trans (hb3.mono Ac);have hI:=hI3;have hBk:Below (w1.heap.size+1) wr wr:=Below.refl _ _
  go_wp2_with (go_at_call 37;refine (Tryz.ST (w1.heap.size+1) (w1.heap.size+1) _ _ hI (by have e1:=hb3.size;have e2:=hBk.size;simp at e1;exact Ac)).mono ?_)
  rintro e W1 ⟨rfl,_,b1⟩
  go_wp2
  have hW1:W1.heap[w.heap.size]?=some (Obj.cells #[Value.string { data:=#[] },Value.int IntKind.i64 0,Value.slice none 0 0] 52 (0,0)) :=
   (b1.block _ Ac).trans ((hBw.block _ Ac).trans ((hw1.block _ (by simp)).trans (heap_alloc_new w _)))
  have hW1s:w.heap.size<W1.heap.size:=(Array.getElem?_eq_some_iff.1 hW1).1;obtain⟨cp,hcp⟩:∃cp,cp=grownCap W1 (⟨(qc8 []).toArray⟩:ByteArray).size 0 5:=⟨_,rfl⟩;rw[run_bytes_of_string W1 9 50 5 ⟨(qc8 []).toArray⟩ Tryz.underlying9 Tryz.underlying50 Tryz.underlying5,← hcp];obtain⟨Wz,hWz⟩:∃Wz,Wz=W1.drew.alloc (.cells (bytesRow ⟨(qc8 []).toArray⟩ cp) 5 ((bytesRow ⟨(qc8 []).toArray⟩ cp).size,(bytesRow ⟨(qc8 []).toArray⟩ cp).size+1)):=⟨_,rfl⟩;rw[← hWz]
  have hz:Wz.heap[w.heap.size]?=some (Obj.cells #[Value.string { data:=#[] },Value.int IntKind.i64 0,Value.slice none 0 0] 52 (0,0)):=Ff
  have hzn:Wz.heap[W1.heap.size]?=some (.cells (bytesRow ⟨(qc8 []).toArray⟩ cp) 5 ((bytesRow ⟨(qc8 []).toArray⟩ cp).size,(bytesRow ⟨(qc8 []).toArray⟩ cp).size+1)):=Hn
  have z0:Wz.cell? ⟨w.heap.size,0,none⟩=some (Value.string { data:=#[] }):=Dn
  have z1:Wz.cell? ⟨w.heap.size,1,none⟩=some (Value.int IntKind.i64 0):=Dn
  have z2:Wz.cell? ⟨w.heap.size,2,none⟩=some (Value.slice none 0 0):=Dn
  have y0:Wz.frozen? ⟨w.heap.size,0,none⟩=false:=Da
  have y1:Wz.frozen? ⟨w.heap.size,1,none⟩=false:=Da
  have y2:Wz.frozen? ⟨w.heap.size,2,none⟩=false:=Da
  have hcl:(qc8 []).length<=cp:=by rw[hcp];exact grownCap_ge W1 _ 0 5
  have hBz:Below (w1.heap.size+1) wr Wz:=hWz ▸ (b1.drew.alloc (by have e0:=b1.size;have e1:=hb3.size;have e2:=hBk.size;simp at e1;simp;exact Ac) _)
  clear hWz hcp hz hW1
  go_wp2
  have hA1:w.heap.size<=w1.heap.size:=Ac
  have hA2:w.heap.size<=w1.heap.size+1:=Ac
  have hBf:Below w.heap.size w1 (((Wz.setCell ⟨w.heap.size,0,none⟩ (.string ⟨nmD.toArray⟩)).setCell ⟨w.heap.size,1,none⟩ (.int .i64 0)).setCell ⟨w.heap.size,2,none⟩ (.slice (some ⟨W1.heap.size,0,none⟩) (qc8 []).length cp)) :=
   ((((hBw.mono hA1).trans (hBz.mono hA2)).setCell (Nat.le_refl _) _).setCell (Nat.le_refl _) _).setCell (Nat.le_refl _) _
  have hnew:(((Wz.setCell ⟨w.heap.size,0,none⟩ (.string ⟨nmD.toArray⟩)).setCell ⟨w.heap.size,1,none⟩ (.int .i64 0)).setCell ⟨w.heap.size,2,none⟩ (.slice (some ⟨W1.heap.size,0,none⟩) (qc8 []).length cp)).heap[W1.heap.size]?=Wz.heap[W1.heap.size]?:=C5
  refine bodyPost_ret (v:=.agg #[.string ⟨nmD.toArray⟩,.int .i64 0,.slice (some ⟨W1.heap.size,0,none⟩) (qc8 []).length cp]) Gv rfl ?_;refine⟨W1.heap.size,cp,_,_,_,rfl,hcl,Ac,hnew.trans hzn,?_,⟨hBf.os.trans hw1.os,hBf.output.trans hw1.output,?_,fun q hq=>(hBf.block q hq).trans ((hw1.block q (by simp;exact Ac)).trans (Below.heap_alloc _ _ _ hq))⟩⟩
  ·unfold bytesRow bV;simp
  ·have:=hw1.size;have:=hBf.size;simp at *;omega
theorem Tryz.draftC(hp:qa Tryz.prog 35 [] (.agg (qph qDv))):qFc Tryz.prog 16 :=
 qIq ⟨_,Tryz.func16,Df,rfl⟩
  ⟨fun a c w hT=>Tryz.draft0 (fun w hT=>qAm hp ⟨_,Tryz.func35,Df,rfl⟩ w hT) a c w hT,
   fun bk o c b w hT h1 h2 h3 h4=>Tryz.draft (fun w hT=>qAm hp ⟨_,Tryz.func35,Df,rfl⟩ w hT) bk o c b w hT h1 h2 h3 h4⟩
end Go.Proofs
