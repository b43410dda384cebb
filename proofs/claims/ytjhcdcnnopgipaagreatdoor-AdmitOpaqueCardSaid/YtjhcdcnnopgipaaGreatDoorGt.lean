/- The table is the program's. -/
import Derived.KernelRfl
import Derived.Test.YtjhcdcnnopgipaaGreatDoorGa
import Derived.Test.YtjhcdcnnopgipaaGreatDoorGb
import Derived.Test.YtjhcdcnnopgipaaGreatDoorGc
import Derived.Test.YtjhcdcnnopgipaaGreatDoorGd
import Derived.Test.YtjhcdcnnopgipaaGreatDoorGs
namespace Go.Proofs.YtjhcdcnnopgipaaGreatDoor
open Go Go.Ev Go.Ev.K
theorem kc : FOK Tryz.prog 186 KFP.clone := .inr (.inl ⟨rfl, Tryz.f186, Tryz.func186, by kernel_rfl, by kernel_rfl, by kernel_rfl, by kernel_rfl⟩)
theorem kws : FOK Tryz.prog 171 (KFP.sum sumWS) := fok_ws bldP (by kernel_rfl)
theorem kbs : FOK Tryz.prog 172 (KFP.sum sumBS) := fok_bs bldP (by kernel_rfl)
theorem knd : FOK Tryz.prog 356 (KFP.sum sumND) := fok_nd Tryz.func356 (by rfl) (by kernel_rfl) nd_walk
theorem tab_ok : AllP (FOK Tryz.prog) tab 1 0 := (.nn (.nn (.nn (.nd k7 (.nd k15 (.nd k31 .nl (.nn (.nd k159 (.nd k287 .nl .nl) .nl) (.nd k223 .nl .nl))) (.nd k47 (.nd k79 (.nn (.nd k271 .nl .nl) .nl) (.nd k207 (.nd k335 .nl .nl) .nl)) (.nd k111 (.nd k175 .nl .nl) .nl))) (.nd k23 (.nd k39 (.nd k71 .nl (.nd k199 (.nd k327 .nl .nl) .nl)) (.nd k103 (.nd k167 (.nd k295 .nl .nl) .nl) (.nd k231 (.nd k359 .nl .nl) .nl))) (.nd k55 (.nn (.nd k151 .nl .nl) (.nn (.nd k343 .nl .nl) .nl)) (.nn (.nd k183 .nl .nl) (.nd k247 .nl .nl))))) (.nd k11 (.nd k19 (.nd k35 (.nn (.nn (.nd k259 .nl .nl) .nl) (.nn (.nd k323 .nl .nl) .nl)) (.nn (.nd k163 .nl .nl) (.nd k227 (.nd k355 .nl .nl) .nl))) (.nd k51 (.nd k83 (.nd k147 (.nd k275 .nl .nl) .nl) (.nn (.nd k339 .nl .nl) .nl)) (.nd k115 .nl .nl))) (.nd k27 (.nd k43 (.nd k75 (.nd k139 (.nd k267 .nl .nl) .nl) (.nd k203 .nl .nl)) (.nd k107 (.nd kws (.nd k299 .nl .nl) .nl) .nl)) (.nd k59 (.nn (.nd k155 .nl .nl) (.nd k219 (.nd k347 .nl .nl) .nl)) (.nn (.nd k187 .nl .nl) (.nd k251 .nl .nl)))))) (.nd k5 (.nd k9 (.nd k17 (.nd k33 .nl (.nn (.nd k161 .nl .nl) (.nd k225 .nl .nl))) (.nd k49 (.nd k81 (.nd k145 (.nd k273 .nl .nl) .nl) (.nd k209 (.nd k337 .nl .nl) .nl)) (.nd k113 (.nn (.nd k305 .nl .nl) .nl) .nl))) (.nd k25 (.nd k41 (.nd k73 .nl (.nd k201 (.nd k329 .nl .nl) .nl)) (.nd k105 (.nd k169 (.nd k297 .nl .nl) .nl) (.nn (.nd k361 .nl .nl) .nl))) (.nd k57 (.nn (.nd k153 .nl .nl) (.nd k217 (.nd k345 .nl .nl) .nl)) (.nn (.nd k185 .nl .nl) .nl)))) (.nd k13 (.nd k21 (.nd k37 (.nd k69 (.nn (.nd k261 .nl .nl) .nl) (.nd k197 (.nd k325 .nl .nl) .nl)) (.nn (.nd k165 .nl .nl) (.nd k229 (.nd k357 .nl .nl) .nl))) (.nd k53 (.nd k85 .nl (.nd k213 .nl .nl)) (.nd k117 (.nd k181 (.nd k309 .nl .nl) .nl) .nl))) (.nd k29 (.nd k45 (.nd k77 (.nn (.nd k269 .nl .nl) .nl) (.nd k205 .nl .nl)) (.nd k109 (.nd k173 (.nd k301 .nl .nl) .nl) .nl)) (.nd k61 (.nn (.nd k157 .nl .nl) (.nn (.nd k349 .nl .nl) .nl)) (.nn (.nn (.nd k317 .nl .nl) .nl) .nl)))))) (.nn (.nn (.nd k8 (.nd k16 (.nd k32 .nl (.nn (.nn (.nd k288 .nl .nl) .nl) (.nd k224 .nl .nl))) (.nd k48 (.nd k80 (.nd k144 (.nd k272 .nl .nl) .nl) (.nd k208 .nl .nl)) (.nd k112 (.nn (.nd k304 .nl .nl) .nl) (.nn (.nd k368 .nl .nl) .nl)))) (.nd k24 (.nd k40 (.nd k72 (.nn (.nd k264 .nl .nl) .nl) (.nd k200 (.nd k328 .nl .nl) .nl)) (.nd k104 (.nd k168 (.nd k296 .nl .nl) .nl) (.nn (.nd k360 .nl .nl) .nl))) (.nd k56 (.nn (.nd k152 .nl .nl) (.nd k216 .nl .nl)) (.nn .nl (.nd k248 .nl .nl))))) (.nd k12 (.nd k20 (.nd k36 (.nn (.nn (.nd k260 .nl .nl) .nl) (.nd k196 (.nd k324 .nl .nl) .nl)) (.nn (.nd k164 .nl .nl) (.nn (.nd knd .nl .nl) .nl))) (.nd k52 (.nd k84 (.nd k148 (.nd k276 .nl .nl) .nl) (.nd k212 .nl .nl)) .nl)) (.nd k28 (.nd k44 (.nd k76 .nl (.nd k204 .nl .nl)) (.nd k108 (.nd kbs (.nd k300 .nl .nl) .nl) (.nn (.nd k364 .nl .nl) .nl))) (.nd k60 (.nn (.nd k156 .nl .nl) (.nn (.nd k348 .nl .nl) .nl)) (.nn (.nd k188 .nl .nl) (.nd k252 .nl .nl)))))) (.nd k6 (.nd k10 (.nd k18 (.nd k34 (.nn (.nn (.nd k258 .nl .nl) .nl) (.nn (.nd k322 .nl .nl) .nl)) (.nn (.nd k162 .nl .nl) .nl)) (.nd k50 (.nd k82 (.nn (.nd k274 .nl .nl) .nl) (.nd k210 (.nd k338 .nl .nl) .nl)) (.nd k114 (.nn (.nd k306 .nl .nl) .nl) .nl))) (.nd k26 (.nd k42 (.nd k74 .nl (.nd k202 (.nd k330 .nl .nl) .nl)) (.nd k106 (.nd k170 (.nd k298 .nl .nl) .nl) (.nn (.nd k362 .nl .nl) .nl))) (.nd k58 (.nn .nl (.nn (.nd k346 .nl .nl) .nl)) (.nn (.nd kc (.nd k314 .nl .nl) .nl) (.nd k250 .nl .nl))))) (.nd k14 (.nd k22 (.nn (.nd k70 .nl (.nn (.nd k326 .nl .nl) .nl)) (.nn (.nd k166 .nl .nl) .nl)) (.nd k54 (.nd k86 (.nd k150 .nl .nl) (.nd k214 (.nd k342 .nl .nl) .nl)) (.nd k118 .nl .nl))) (.nd k30 (.nd k46 (.nd k78 .nl (.nd k206 .nl .nl)) (.nd k110 (.nd k174 (.nd k302 .nl .nl) .nl) .nl)) (.nn (.nn (.nd k158 (.nd k286 .nl .nl) .nl) (.nd k222 .nl .nl)) (.nn .nl (.nd k254 .nl .nl))))))))
theorem t0_ok : ∀ f c, T0 f = some c → FOK Tryz.prog f c := table_ok tab_ok
theorem follows : Tryz.prog.follows .mixedOrders = true := by kernel_rfl
theorem upd_ok {P : Program} {T : Nat → Option KF} {i : Nat} {s : KF} (hT : ∀ f c, T f = some c → FOK P f c) (hs : FOK P i s) : ∀ f c, updT T i s f = some c → FOK P f c := by
  intro f c h
  unfold updT at h
  cases e : Nat.beq f i with
  | true => rw [e] at h; cases h; rw [Nat.eq_of_beq_eq_true e]; exact hs
  | false => rw [e] at h; exact hT f c h
theorem fnok_of {P : Program} {f : Nat} {fn : Func} {rf : RFunc} (h1 : P.funcs[f]? = some fn) (h2 : resFunc P fn = some rf) (h3 : (fn.name == "runtime.NumGoroutine") = false) : ∃ c, FnOK P f fn c rf := by
  unfold resFunc at h2
  split at h2
  · rename_i code hb
    split at h2
    · rename_i b rs e1 e2
      cases h2
      exact ⟨code, h1, hb, h3, e1, e2⟩
    · cases h2
  · cases h2
end Go.Proofs.YtjhcdcnnopgipaaGreatDoor
