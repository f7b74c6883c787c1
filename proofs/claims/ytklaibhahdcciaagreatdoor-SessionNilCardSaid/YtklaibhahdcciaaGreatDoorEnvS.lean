/- The code that a run reaches, as the abstract machine's; it is the program's. No condition. -/
import Derived.Test.YtklaibhahdcciaaGreatDoorEnvQ1
import Derived.Test.YtklaibhahdcciaaGreatDoorProg
import Derived.KernelRfl
namespace Go.Proofs.YtklaibhahdcciaaGreatDoor.EnvS
open Go.Kc
def sites:List (List Nat×ICode×ICode):=[([15],sx0,sy0),([8,9],sx1,sy1),([22,23],sx2,sy2),([7],sx3,sy3),([6,7],sx4,sy4),([17,18],sx5,sy5),([48],sx6,sy6),([12,13],sx7,sy7),([8],sx8,sy8),([8,9],sx9,sy9)]
instance cur:Cur:=qlY Tryz.prog (qd5 sites)
def env:Tr IFn:=(.o (.o (.o (.g e7 (.g e15 (.o (.g e63 (.g e127 (.g e255 (.f e511) .leaf) (.f e383)) (.g e191 (.f e319) (.f e447))) (.g e95 (.g e159 (.f e287) (.f e415)) (.g e223 (.f e351) (.f e479)))) (.g e47 (.g e79 (.g e143 (.f e271) (.f e399)) (.g e207 (.f e335) (.f e463))) (.g e111 (.g e175 (.f e303) (.f e431)) (.g e239 (.f e367) (.f e495))))) (.g e23 (.g e39 (.g e71 (.g e135 (.f e263) (.f e391)) (.g e199 (.f e327) (.f e455))) (.g e103 (.g e167 (.f e295) (.f e423)) (.g e231 (.f e359) (.f e487)))) (.g e55 (.g e87 (.g e151 (.f e279) (.f e407)) (.g e215 (.f e343) (.f e471))) (.g e119 (.o (.f e311) (.f e439)) (.g e247 (.f e375) (.f e503)))))) (.g e11 (.g e19 (.g e35 (.g e67 (.g e131 (.g e259 (.f e515) .leaf) (.f e387)) (.g e195 (.f e323) (.f e451))) (.o (.g e163 (.f e291) (.f e419)) (.g e227 (.f e355) (.f e483)))) (.g e51 (.g e83 (.g e147 (.f e275) (.f e403)) (.g e211 (.f e339) (.f e467))) (.g e115 (.g e179 (.f e307) (.f e435)) (.g e243 (.f e371) (.f e499))))) (.g e27 (.g e43 (.g e75 (.g e139 (.f e267) (.f e395)) (.g e203 (.f e331) (.f e459))) (.g e107 (.g e171 (.f e299) (.f e427)) (.g e235 (.f e363) (.f e491)))) (.o (.g e91 (.g e155 (.f e283) (.f e411)) (.g e219 (.f e347) .leaf)) (.g e123 (.g e187 (.f e315) (.f e443)) (.g e251 (.f e379) (.f e507))))))) (.g e5 (.g e9 (.o (.g e33 (.g e65 (.g e129 (.g e257 (.f e513) .leaf) (.f e385)) (.g e193 (.f e321) (.f e449))) (.o (.g e161 (.f e289) (.f e417)) (.g e225 (.f e353) (.f e481)))) (.g e49 (.g e81 (.o (.f e273) (.f e401)) (.g e209 (.f e337) (.f e465))) (.g e113 (.g e177 (.f e305) (.f e433)) (.g e241 (.f e369) (.f e497))))) (.g e25 (.g e41 (.g e73 (.g e137 (.f e265) (.f e393)) (.g e201 (.f e329) (.f e457))) (.g e105 (.g e169 (.f e297) (.f e425)) (.g e233 (.f e361) (.f e489)))) (.g e57 (.g e89 (.g e153 (.f e281) (.f e409)) (.g e217 (.f e345) (.f e473))) (.g e121 (.g e185 (.f e313) (.f e441)) (.g e249 (.f e377) (.f e505)))))) (.g e13 (.g e21 (.g e37 (.g e69 (.g e133 (.f e261) (.f e389)) (.g e197 (.f e325) (.f e453))) (.g e101 (.g e165 (.f e293) (.f e421)) (.g e229 (.f e357) (.f e485)))) (.g e53 (.g e85 (.o (.f e277) (.f e405)) (.g e213 (.f e341) (.f e469))) (.g e117 (.g e181 (.f e309) (.f e437)) (.g e245 (.f e373) (.f e501))))) (.g e29 (.g e45 (.g e77 (.g e141 (.f e269) (.f e397)) (.g e205 (.f e333) (.f e461))) (.g e109 (.g e173 (.f e301) (.f e429)) (.g e237 (.f e365) (.f e493)))) (.g e61 (.o (.g e157 (.f e285) (.f e413)) (.g e221 (.f e349) (.f e477))) (.g e125 (.g e189 (.f e317) (.f e445)) (.g e253 (.f e381) (.f e509)))))))) (.o (.g e4 (.g e8 (.g e16 (.o (.g e64 (.g e128 (.g e256 (.f e512) .leaf) (.f e384)) (.g e192 (.f e320) (.f e448))) (.g e96 (.g e160 (.f e288) (.f e416)) (.g e224 (.f e352) (.f e480)))) (.g e48 (.g e80 (.o (.f e272) (.f e400)) (.g e208 (.f e336) (.f e464))) (.g e112 (.o (.f e304) (.f e432)) (.g e240 (.f e368) (.f (tbl 18 tab_groups fun i r=>[.q (2*i+1) (qnk r.2),.l (2*i+2) 502 [.c (.s r.1),.t (2*i+1)]])))))) (.g e24 (.g e40 (.g e72 (.g e136 (.f e264) (.f e392)) (.g e200 (.f e328) (.f e456))) (.g e104 (.g e168 (.f e296) (.f e424)) (.g e232 (.f e360) (.f e488)))) (.o (.g e88 (.g e152 (.f e280) (.f e408)) (.g e216 (.f e344) (.f e472))) (.g e120 (.g e184 (.f e312) (.f e440)) (.g e248 (.f e376) (.f e504)))))) (.g e12 (.g e20 (.g e36 (.g e68 (.g e132 (.g e260 (.f e516) .leaf) (.f e388)) (.g e196 (.f e324) (.f e452))) (.o (.g e164 (.f e292) (.f e420)) (.g e228 (.f e356) (.f e484)))) (.g e52 (.g e84 (.o (.f e276) (.f e404)) (.g e212 (.f e340) (.f e468))) (.g e116 (.g e180 (.f e308) (.f e436)) (.g e244 (.f e372) (.f e500))))) (.g e28 (.g e44 (.g e76 (.g e140 (.f e268) (.f e396)) (.g e204 (.f e332) (.f e460))) (.g e108 (.g e172 (.f e300) (.f e428)) (.g e236 (.f e364) (.f e492)))) (.g e60 (.g e92 (.g e156 (.f e284) (.f e412)) (.g e220 (.f e348) (.f e476))) (.g e124 (.g e188 (.f e316) (.f e444)) (.g e252 (.f e380) (.f e508))))))) (.g e6 (.g e10 (.g e18 (.g e34 (.g e66 (.g e130 (.g e258 (.f e514) .leaf) (.f e386)) (.g e194 (.f e322) (.f e450))) (.o (.g e162 (.f e290) (.f e418)) (.g e226 (.f e354) (.f e482)))) (.o (.g e82 (.o (.f e274) (.f e402)) (.g e210 (.f e338) (.f e466))) (.g e114 (.g e178 (.f e306) (.f e434)) (.g e242 (.f e370) .leaf)))) (.g e26 (.g e42 (.g e74 (.g e138 (.f e266) (.f e394)) (.g e202 (.f e330) (.f e458))) (.g e106 (.g e170 (.f e298) (.f e426)) (.g e234 (.f e362) .leaf))) (.g e58 (.g e90 (.g e154 (.f e282) (.f e410)) (.g e218 (.f e346) (.f e474))) (.g e122 (.g e186 (.f e314) (.f e442)) (.g e250 (.f e378) (.f e506)))))) (.g e14 (.g e22 (.g e38 (.g e70 (.g e134 (.f e262) (.f e390)) (.g e198 (.f e326) (.f e454))) (.g e102 (.g e166 (.f e294) (.f e422)) (.g e230 (.f e358) (.f e486)))) (.g e54 (.g e86 (.o (.f e278) (.f e406)) (.g e214 (.f e342) .leaf)) (.g e118 (.o (.f e310) (.f e438)) (.g e246 (.f e374) (.f e502))))) (.g e30 (.g e46 (.g e78 (.g e142 (.f e270) (.f e398)) (.g e206 (.f e334) (.f e462))) (.g e110 (.g e174 (.f e302) (.f e430)) (.g e238 (.f e366) (.f e494)))) (.g e62 (.g e94 (.g e158 (.f e286) (.f e414)) (.g e222 (.f e350) (.f e478))) (.g e126 (.g e190 (.f e318) (.f e446)) (.g e254 (.f e382) (.f e510)))))))))
noncomputable def pD:Nat->IFn->Bool:=fun n i=>xo Tryz.prog n i||[(141,176)].any fun p=>Nat.beq p.1 n&&(qdG p.2 i&&wj Tryz.prog n p.2 i)
def lc:Tr IFn->Tr IFn
 | .node _ l _=>l
 | .leaf=>.leaf
def rc:Tr IFn->Tr IFn
 | .node _ _ r=>r
 | .leaf=>.leaf
theorem allB_n{p:Nat->IFn->Bool}{v:Option IFn}{l r:Tr IFn}{a b:Nat}(hv:(match v with|none=>true|some i=>p b i)=true)(hl:qde p l (2*a) (a+b)=true)(hr:qde p r (2*a) (2*a+b)=true):qde p (.node v l r) a b=true:=by
 cases v with
 | none=>show (true&&(qde p l (2*a) (a+b)&&qde p r (2*a) (2*a+b)))=true;rw[hl,hr];rfl
 | some i=>have hv1:p b i=true:=hv;show (p b i&&(qde p l (2*a) (a+b)&&qde p r (2*a) (2*a+b)))=true;rw[hv1,hl,hr];rfl
theorem qllll:qde pD (lc (lc (lc (lc env)))) 16 15=true:=by kernel_rfl
theorem qlllr:qde pD (rc (lc (lc (lc env)))) 16 23=true:=by kernel_rfl
theorem qllrl:qde pD (lc (rc (lc (lc env)))) 16 19=true:=by kernel_rfl
theorem qllrr:qde pD (rc (rc (lc (lc env)))) 16 27=true:=by kernel_rfl
theorem qlrll:qde pD (lc (lc (rc (lc env)))) 16 17=true:=by kernel_rfl
theorem qlrlr:qde pD (rc (lc (rc (lc env)))) 16 25=true:=by kernel_rfl
theorem qlrrl:qde pD (lc (rc (rc (lc env)))) 16 21=true:=by kernel_rfl
theorem qlrrr:qde pD (rc (rc (rc (lc env)))) 16 29=true:=by kernel_rfl
theorem qrlll:qde pD (lc (lc (lc (rc env)))) 16 16=true:=by kernel_rfl
theorem qrllr:qde pD (rc (lc (lc (rc env)))) 16 24=true:=by kernel_rfl
theorem qrlrl:qde pD (lc (rc (lc (rc env)))) 16 20=true:=by kernel_rfl
theorem qrlrr:qde pD (rc (rc (lc (rc env)))) 16 28=true:=by kernel_rfl
theorem qrrll:qde pD (lc (lc (rc (rc env)))) 16 18=true:=by kernel_rfl
theorem qrrlr:qde pD (rc (lc (rc (rc env)))) 16 26=true:=by kernel_rfl
theorem qrrrl:qde pD (lc (rc (rc (rc env)))) 16 22=true:=by kernel_rfl
theorem qrrrr:qde pD (rc (rc (rc (rc env)))) 16 30=true:=by kernel_rfl
theorem envOk:wg Tryz.prog env:=qmO (D:=[(141,176)]) (allB_n (by kernel_rfl) (allB_n (by kernel_rfl) (allB_n (by kernel_rfl) (allB_n (by kernel_rfl) qllll qlllr) (allB_n (by kernel_rfl) qllrl qllrr)) (allB_n (by kernel_rfl) (allB_n (by kernel_rfl) qlrll qlrlr) (allB_n (by kernel_rfl) qlrrl qlrrr))) (allB_n (by kernel_rfl) (allB_n (by kernel_rfl) (allB_n (by kernel_rfl) qrlll qrllr) (allB_n (by kernel_rfl) qrlrl qrlrr)) (allB_n (by kernel_rfl) (allB_n (by kernel_rfl) qrrll qrrlr) (allB_n (by kernel_rfl) qrrrl qrrrr))))
theorem qmK:SitesOk Tryz.prog env (qd5 sites):=Go.Kc.qmK (L:=[111,142,198,229,235,312,324,371,375,442]) (by kernel_rfl) (by kernel_rfl) (by
 intro f hf i hi;simp only[List.mem_cons,List.not_mem_nil,or_false] at hf;rcases hf with rfl|rfl|rfl|rfl|rfl|rfl|rfl|rfl|rfl|rfl
 ·have e:env.get 111=some e111:=by kernel_rfl
  rw[e] at hi;cases hi
  repeat' first|exact trivial|rfl|apply And.intro
 ·have e:env.get 142=some e142:=by kernel_rfl
  rw[e] at hi;cases hi
  repeat' first|exact trivial|rfl|apply And.intro
 ·have e:env.get 198=some e198:=by kernel_rfl
  rw[e] at hi;cases hi
  repeat' first|exact trivial|rfl|apply And.intro
 ·have e:env.get 229=some e229:=by kernel_rfl
  rw[e] at hi;cases hi
  repeat' first|exact trivial|rfl|apply And.intro
 ·have e:env.get 235=some e235:=by kernel_rfl
  rw[e] at hi;cases hi
  repeat' first|exact trivial|rfl|apply And.intro
 ·have e:env.get 312=some e312:=by kernel_rfl
  rw[e] at hi;cases hi
  repeat' first|exact trivial|rfl|apply And.intro
 ·have e:env.get 324=some e324:=by kernel_rfl
  rw[e] at hi;cases hi
  repeat' first|exact trivial|rfl|apply And.intro
 ·have e:env.get 371=some e371:=by kernel_rfl
  rw[e] at hi;cases hi
  repeat' first|exact trivial|rfl|apply And.intro
 ·have e:env.get 375=some e375:=by kernel_rfl
  rw[e] at hi;cases hi
  repeat' first|exact trivial|rfl|apply And.intro
 ·have e:env.get 442=some e442:=by kernel_rfl
  rw[e] at hi;cases hi
  repeat' first|exact trivial|rfl|apply And.intro
)
/-- what the model answers by itself -/
noncomputable def extH:qcv:=fun f vs =>
 if f=498 then (match vs with | [.s a,.s b]=>some (.i .i64 (qbN a b))|_=>none)
 else if f=93 then (match vs with | [.s a,.i .u8 c]=>if 0<=c∧c<256 then some (.i .i64 (qdt (UInt8.ofNat c.toNat) a 0)) else none|_=>none)
 else if f=59 then (match vs with | [.s a,.i .u8 c]=>if 0<=c∧c<256 then some (.i .i64 ((a.count (UInt8.ofNat c.toNat):Nat):Int)) else none|_=>none)
 else none
theorem extOk:qbf Tryz.prog extH:=by
 intro f vs v h;unfold extH at h;split at h
 ·rename_i hf;split at h
  ·cases h;subst hf;exact qhc (qbp.of Tryz.func498 (by kernel_rfl) (by kernel_rfl) (by kernel_rfl) (by kernel_rfl)) _ _
  ·cases h
 ·split at h
  ·rename_i hf;split at h
   ·split at h
    ·rename_i a c hc;cases h;subst hf
     have e:((UInt8.ofNat c.toNat).toNat:Int)=c:=by
      rw[UInt8.toNat_ofNat',Nat.mod_eq_of_lt (by omega)];omega
     have:=qhe (qbp.of Tryz.func93 (by kernel_rfl) (by kernel_rfl) (by kernel_rfl) (by kernel_rfl)) a (UInt8.ofNat c.toNat);rwa [e] at this
    ·cases h
   ·cases h
  ·split at h
   ·rename_i hf;split at h
    ·split at h
     ·rename_i a c hc;cases h;subst hf
      have e:((UInt8.ofNat c.toNat).toNat:Int)=c:=by
       rw[UInt8.toNat_ofNat',Nat.mod_eq_of_lt (by omega)];omega
      have:=qhd (qbp.of Tryz.func59 (by kernel_rfl) (by kernel_rfl) (by kernel_rfl) (by kernel_rfl)) a (UInt8.ofNat c.toNat);rwa [e] at this
     ·cases h
    ·cases h
   ·cases h
end Go.Proofs.YtklaibhahdcciaaGreatDoor.EnvS
