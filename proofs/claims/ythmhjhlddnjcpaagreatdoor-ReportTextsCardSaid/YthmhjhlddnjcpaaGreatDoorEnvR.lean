/- The code that a run reaches, as the abstract machine's; it is the program's. No condition. -/
import Derived.Test.YthmhjhlddnjcpaaGreatDoorEnvQ
import Derived.Test.YthmhjhlddnjcpaaGreatDoorProg
import Derived.KernelRfl
namespace Go.Proofs.YthmhjhlddnjcpaaGreatDoor.EnvR
open Go.Kc
def sites:List (List Nat×ICode×ICode):=[([15],sx0,sy0),([22,23],sx1,sy1),([7],sx2,sy2),([6,7],sx3,sy3),([17,18],sx4,sy4),([12,13],sx5,sy5),([8],sx6,sy6),([8,9],sx7,sy7)]
instance cur:Cur:=qni Tryz.prog (qeu sites)
def env:Tr IFn:=(.o (.o (.o (.o (.g e15 (.o (.g e63 (.f e127) (.f e191)) (.g e95 (.g e159 (.f e287) .leaf) (.g e223 (.f e351) .leaf))) (.g e47 (.g e79 (.g e143 (.f e271) .leaf) (.g e207 (.f e335) .leaf)) (.g e111 (.g e175 (.f e303) .leaf) (.g e239 (.f e367) .leaf)))) (.g e23 (.o (.g e71 (.g e135 (.f e263) .leaf) (.g e199 (.f e327) .leaf)) (.g e103 (.g e167 (.f e295) .leaf) (.g e231 (.f e359) .leaf))) (.g e55 (.g e87 (.g e151 (.f e279) .leaf) (.g e215 (.f e343) .leaf)) (.g e119 (.g e183 (.f e311) .leaf) (.g e247 (.f e375) .leaf))))) (.o (.g e19 (.o (.g e67 (.g e131 (.f e259) .leaf) (.g e195 (.f e323) .leaf)) (.g e99 (.g e163 (.f e291) .leaf) (.g e227 (.f e355) .leaf))) (.g e51 (.g e83 (.g e147 (.f e275) .leaf) (.g e211 (.f e339) .leaf)) (.g e115 (.g e179 (.f e307) .leaf) (.g e243 (.f e371) .leaf)))) (.g e27 (.g e43 (.g e75 (.g e139 (.f e267) .leaf) (.g e203 (.f e331) .leaf)) (.g e107 (.g e171 (.f e299) .leaf) (.g e235 (.f e363) .leaf))) (.g e59 (.g e91 (.g e155 (.f e283) .leaf) (.f e219)) (.g e123 (.g e187 (.f e315) .leaf) (.f e251)))))) (.g e5 (.g e9 (.g e17 (.g e33 (.g e65 (.g e129 (.f e257) .leaf) (.g e193 (.f e321) .leaf)) (.g e97 (.g e161 (.f e289) .leaf) (.g e225 (.f e353) .leaf))) (.o (.g e81 (.g e145 (.f e273) .leaf) (.g e209 (.f e337) .leaf)) (.g e113 (.g e177 (.f e305) .leaf) (.g e241 (.f e369) .leaf)))) (.g e25 (.g e41 (.g e73 (.g e137 (.f e265) .leaf) (.g e201 (.f e329) .leaf)) (.g e105 (.g e169 (.f e297) .leaf) (.g e233 (.f e361) .leaf))) (.g e57 (.g e89 (.g e153 (.f e281) .leaf) (.g e217 (.f e345) .leaf)) (.g e121 (.g e185 (.f e313) .leaf) (.g e249 (.f e377) .leaf))))) (.o (.g e21 (.o (.g e69 (.g e133 (.f e261) .leaf) (.g e197 (.f e325) .leaf)) (.g e101 (.g e165 (.f e293) .leaf) (.g e229 (.f e357) .leaf))) (.g e53 (.g e85 (.g e149 (.f e277) .leaf) (.g e213 (.f e341) .leaf)) (.g e117 (.g e181 (.f e309) .leaf) (.g e245 (.f e373) .leaf)))) (.o (.g e45 (.g e77 (.g e141 (.f e269) .leaf) (.g e205 (.f e333) .leaf)) (.g e109 (.g e173 (.f e301) .leaf) (.g e237 (.f e365) .leaf))) (.g e61 (.g e93 (.g e157 (.f e285) .leaf) (.g e221 (.f e349) .leaf)) (.g e125 (.g e189 (.f e317) .leaf) (.f e253))))))) (.o (.o (.g e8 (.g e16 (.g e32 (.g e64 (.g e128 (.f e256) .leaf) (.g e192 (.f e320) .leaf)) (.g e96 (.g e160 (.f e288) .leaf) (.g e224 (.f e352) .leaf))) (.g e48 (.g e80 (.g e144 (.f e272) .leaf) (.g e208 (.f e336) .leaf)) (.g e112 (.g e176 (.f e304) .leaf) (.g e240 (.f e368) .leaf)))) (.o (.g e40 (.g e72 (.g e136 (.f e264) .leaf) (.g e200 (.f e328) .leaf)) (.g e104 (.g e168 (.f e296) .leaf) (.g e232 (.f e360) .leaf))) (.g e56 (.g e88 (.g e152 (.f e280) .leaf) (.g e216 (.f e344) .leaf)) (.g e120 (.g e184 (.f e312) .leaf) (.g e248 (.f e376) .leaf))))) (.g e12 (.o (.g e36 (.g e68 (.g e132 (.f e260) .leaf) (.f e196)) (.g e100 (.g e164 (.f e292) .leaf) (.g e228 (.f (tbl 18 tab_groups fun i r=>[.q (2*i+1) (qoZ r.2),.l (2*i+2) 364 [.c (.s r.1),.t (2*i+1)]])) .leaf))) (.g e52 (.g e84 (.g e148 (.f e276) .leaf) (.g e212 (.f e340) .leaf)) (.g e116 (.g e180 (.f e308) .leaf) (.g e244 (.f e372) .leaf)))) (.o (.g e44 (.g e76 (.g e140 (.f e268) .leaf) (.g e204 (.f e332) .leaf)) (.g e108 (.g e172 (.f e300) .leaf) (.g e236 (.f e364) .leaf))) (.g e60 (.g e92 (.g e156 (.f e284) .leaf) (.g e220 (.f e348) .leaf)) (.g e124 (.g e188 (.f e316) .leaf) (.f e252)))))) (.g e6 (.g e10 (.o (.g e34 (.g e66 (.g e130 (.f e258) .leaf) (.g e194 (.f e322) .leaf)) (.g e98 (.g e162 (.f e290) .leaf) (.g e226 (.f e354) .leaf))) (.o (.g e82 (.g e146 (.f e274) .leaf) (.f e210)) (.g e114 (.g e178 (.f e306) .leaf) (.g e242 (.f e370) .leaf)))) (.g e26 (.g e42 (.g e74 (.g e138 (.f e266) .leaf) (.g e202 (.f e330) .leaf)) (.g e106 (.g e170 (.f e298) .leaf) (.g e234 (.f e362) .leaf))) (.g e58 (.g e90 (.g e154 (.f e282) .leaf) (.g e218 (.f e346) .leaf)) (.g e122 (.g e186 (.f e314) .leaf) (.g e250 (.f e378) .leaf))))) (.g e14 (.g e22 (.o (.g e70 (.g e134 (.f e262) .leaf) (.g e198 (.f e326) .leaf)) (.g e102 (.g e166 (.f e294) .leaf) (.f e230))) (.g e54 (.g e86 (.g e150 (.f e278) .leaf) (.g e214 (.f e342) .leaf)) (.g e118 (.g e182 (.f e310) .leaf) (.g e246 (.f e374) .leaf)))) (.o (.g e46 (.g e78 (.g e142 (.f e270) .leaf) (.g e206 (.f e334) .leaf)) (.g e110 (.g e174 (.f e302) .leaf) (.g e238 (.f e366) .leaf))) (.g e62 (.g e94 (.g e158 (.f e286) .leaf) (.g e222 (.f e350) .leaf)) (.g e126 (.g e190 (.f e318) .leaf) (.f e254))))))))
theorem envOk:wj Tryz.prog env:=qol (D:=[]) (by kernel_rfl)
theorem qod:SitesOk Tryz.prog env (qeu sites):=Go.Kc.qod (L:=[34,61,89,95,177,235,239,287]) (by kernel_rfl) (by kernel_rfl) (by
 intro f hf i hi;simp only[List.mem_cons,List.not_mem_nil,or_false] at hf;rcases hf with rfl|rfl|rfl|rfl|rfl|rfl|rfl|rfl
 ·have e:env.get 34=some e34:=by kernel_rfl
  rw[e] at hi;cases hi
  repeat' first|exact trivial|rfl|apply And.intro
 ·have e:env.get 61=some e61:=by kernel_rfl
  rw[e] at hi;cases hi
  repeat' first|exact trivial|rfl|apply And.intro
 ·have e:env.get 89=some e89:=by kernel_rfl
  rw[e] at hi;cases hi
  repeat' first|exact trivial|rfl|apply And.intro
 ·have e:env.get 95=some e95:=by kernel_rfl
  rw[e] at hi;cases hi
  repeat' first|exact trivial|rfl|apply And.intro
 ·have e:env.get 177=some e177:=by kernel_rfl
  rw[e] at hi;cases hi
  repeat' first|exact trivial|rfl|apply And.intro
 ·have e:env.get 235=some e235:=by kernel_rfl
  rw[e] at hi;cases hi
  repeat' first|exact trivial|rfl|apply And.intro
 ·have e:env.get 239=some e239:=by kernel_rfl
  rw[e] at hi;cases hi
  repeat' first|exact trivial|rfl|apply And.intro
 ·have e:env.get 287=some e287:=by kernel_rfl
  rw[e] at hi;cases hi
  repeat' first|exact trivial|rfl|apply And.intro
)
/-- what the model answers by itself -/
noncomputable def extH:wZ:=fun f vs =>
 if f=358 then (match vs with | [.s a,.s b]=>some (.i .i64 (qbT a b))|_=>none)
 else if f=338 then (match vs with | [.s a,.i .u8 c]=>if 0<=c∧c<256 then some (.i .i64 (qdN (UInt8.ofNat c.toNat) a 0)) else none|_=>none)
 else none
theorem extOk:vd Tryz.prog extH:=by
 intro f vs v h;unfold extH at h;split at h
 ·rename_i hf;split at h
  ·cases h;subst hf;exact qhW (qb1.of Tryz.func358 (by kernel_rfl) (by kernel_rfl) (by kernel_rfl) (by kernel_rfl)) _ _
  ·cases h
 ·split at h
  ·rename_i hf;split at h
   ·split at h
    ·rename_i a c hc;cases h;subst hf
     have e:((UInt8.ofNat c.toNat).toNat:Int)=c:=by
      rw[UInt8.toNat_ofNat',Nat.mod_eq_of_lt (by omega)];omega
     have:=qhX (qb1.of Tryz.func338 (by kernel_rfl) (by kernel_rfl) (by kernel_rfl) (by kernel_rfl)) a (UInt8.ofNat c.toNat);rwa [e] at this
    ·cases h
   ·cases h
  ·cases h
theorem go{f:Nat}{vs:List AV}{r:AV}(hc:qM vs=true)(h:∀n,n=1000000->qai env extH (qeu sites) (fr env extH (qeu sites) n) (Nat.succ f) vs H0 (fun v h=>tt (xJ h r v))=True):qp Tryz.prog f vs r:=qp.of_SC hc ((SC.runR envOk extOk qod 1000000 (of_eq_true (h _ rfl))).mono fun _ _ hv=>qiW _ _ (qn0 hv))
end Go.Proofs.YthmhjhlddnjcpaaGreatDoor.EnvR
