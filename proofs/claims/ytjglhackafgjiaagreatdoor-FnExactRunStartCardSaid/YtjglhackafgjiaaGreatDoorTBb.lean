/- What must be shown of the table of B. No condition. -/
import Derived.Test.YtjglhackafgjiaaGreatDoorTBa
import Derived.Test.YtjglhackafgjiaaGreatDoorTBc
namespace Go.Proofs.YtjglhackafgjiaaGreatDoor.E.TB
open Go.Proofs.YtjglhackafgjiaaGreatDoor.E
set_option linter.unusedVariables false
set_option maxRecDepth 100000
theorem QD:∀ t ft,tab.ty t=some ft→bG tab.G Tryz.prog tab.ty t ft=true:=QP (l:=tyL) (by kernel_rfl)
def Mo:Go.Shelf.Ren:=⟨fun | 171=>164 | 243=>199 | 246=>236 | 283=>262 | 284=>263 | 285=>264 | 286=>265 | 129=>283 | 317=>290 | 318=>291 | 319=>292 | 320=>293 | 337=>308 | 338=>309 | n=>n,fun | 3=>3 | 9=>9 | 2=>2 | 4=>4 | 171=>241 | 0=>0 | 53=>213 | 37=>97 | 5=>5 | 173=>243 | 212=>257 | 51=>235 | 20=>20 | 213=>258 | 46=>212 | 232=>289 | 233=>290 | n=>n,fun | 17=>3 | 18=>8 | 19=>9 | n=>n⟩
theorem Mn:Go.Proofs.LaysM.n171 Tryz.prog Mo where
 mixed:=by kernel_rfl
 f129:=Tryz.func283.trans (congrArg some (by kernel_rfl))
 f171:=Tryz.func164.trans (congrArg some (by kernel_rfl))
 f243:=Tryz.func199.trans (congrArg some (by kernel_rfl))
 f246:=Tryz.func236.trans (congrArg some (by kernel_rfl))
 f283:=Tryz.func262.trans (congrArg some (by kernel_rfl))
 f284:=Tryz.func263.trans (congrArg some (by kernel_rfl))
 f285:=Tryz.func264.trans (congrArg some (by kernel_rfl))
 f286:=Tryz.func265.trans (congrArg some (by kernel_rfl))
 f317:=Tryz.func290.trans (congrArg some (by kernel_rfl))
 f318:=Tryz.func291.trans (congrArg some (by kernel_rfl))
 f319:=Tryz.func292.trans (congrArg some (by kernel_rfl))
 f320:=Tryz.func293.trans (congrArg some (by kernel_rfl))
 f337:=Tryz.func308.trans (congrArg some (by kernel_rfl))
 f338:=Tryz.func309.trans (congrArg some (by kernel_rfl))
 t0:=Tryz.underlying0
 a0:=Tryz.isAgg0
 z0:=Tryz.sizeOf0
 v0:=Tryz.zeroValue0
 t2:=Tryz.underlying2
 a2:=Tryz.isAgg2
 z2:=Tryz.sizeOf2
 v2:=Tryz.zeroValue2
 t3:=Tryz.underlying3
 a3:=Tryz.isAgg3
 z3:=Tryz.sizeOf3
 v3:=Tryz.zeroValue3
 t4:=Tryz.underlying4
 a4:=Tryz.isAgg4
 z4:=Tryz.sizeOf4
 v4:=Tryz.zeroValue4
 t5:=Tryz.underlying5
 a5:=Tryz.isAgg5
 z5:=Tryz.sizeOf5
 v5:=Tryz.zeroValue5
 t9:=Tryz.underlying9
 a9:=Tryz.isAgg9
 z9:=Tryz.sizeOf9
 v9:=Tryz.zeroValue9
 t20:=Tryz.underlying20
 a20:=Tryz.isAgg20
 z20:=Tryz.sizeOf20
 v20:=Tryz.zeroValue20
 t37:=Tryz.underlying97
 a37:=Tryz.isAgg97
 z37:=Tryz.sizeOf97
 v37:=Tryz.zeroValue97
 t46:=Tryz.underlying212
 a46:=Tryz.isAgg212
 z46:=Tryz.sizeOf212
 v46:=Tryz.zeroValue212
 t51:=Tryz.underlying235
 a51:=Tryz.isAgg235
 z51:=Tryz.sizeOf235
 v51:=Tryz.zeroValue235
 t53:=Tryz.underlying213
 a53:=Tryz.isAgg213
 z53:=Tryz.sizeOf213
 v53:=Tryz.zeroValue213
 t171:=Tryz.underlying241
 a171:=Tryz.isAgg241
 z171:=Tryz.sizeOf241
 v171:=Tryz.zeroValue241
 t173:=Tryz.underlying243
 a173:=Tryz.isAgg243
 z173:=Tryz.sizeOf243
 v173:=Tryz.zeroValue243
 t212:=Tryz.underlying257
 a212:=Tryz.isAgg257
 z212:=Tryz.sizeOf257
 v212:=Tryz.zeroValue257
 t213:=Tryz.underlying258
 a213:=Tryz.isAgg258
 z213:=Tryz.sizeOf258
 t232:=Tryz.underlying289
 a232:=Tryz.isAgg289
 z232:=Tryz.sizeOf289
 v232:=Tryz.zeroValue289
 t233:=Tryz.underlying290
 a233:=Tryz.isAgg290
 z233:=Tryz.sizeOf290
 v233:=Tryz.zeroValue290
 g17:=by kernel_rfl
 g18:=by kernel_rfl
 g19:=by kernel_rfl
 i0:=by kernel_rfl
 i2:=by kernel_rfl
 i3:=by kernel_rfl
 i4:=by kernel_rfl
 i5:=by kernel_rfl
 i9:=by kernel_rfl
 i20:=by kernel_rfl
 i37:=by kernel_rfl
 i46:=by kernel_rfl
 i51:=by kernel_rfl
 i53:=by kernel_rfl
 i171:=by kernel_rfl
 i173:=by kernel_rfl
 i212:=by kernel_rfl
 i232:=by kernel_rfl
 i233:=by kernel_rfl
 m17:=by kernel_rfl
 m18:=by kernel_rfl
 m19:=by kernel_rfl
def Mp:Go.Shelf.Ren:=⟨fun | 189=>272 | 125=>297 | 257=>296 | 128=>319 | 129=>283 | 294=>310 | 295=>311 | 296=>312 | 297=>313 | 298=>314 | 299=>315 | 216=>316 | 300=>317 | 301=>318 | 328=>322 | 329=>323 | 330=>324 | 331=>325 | 332=>326 | 215=>327 | 343=>328 | n=>n,fun | 28=>228 | 3=>3 | 46=>212 | 0=>0 | 51=>235 | 53=>213 | 4=>4 | 183=>279 | 182=>278 | 131=>105 | 5=>5 | 9=>9 | 218=>291 | 222=>295 | 228=>297 | 229=>152 | n=>n,fun | n=>n⟩
theorem Cy:Go.Proofs.Lays.n189 Tryz.prog Mp where
 mixed:=by kernel_rfl
 f125:=Tryz.func297.trans (congrArg some (by kernel_rfl))
 f128:=Tryz.func319.trans (congrArg some (by kernel_rfl))
 f129:=Tryz.func283.trans (congrArg some (by kernel_rfl))
 f189:=Tryz.func272.trans (congrArg some (by kernel_rfl))
 f215:=Tryz.func327.trans (congrArg some (by kernel_rfl))
 f216:=Tryz.func316.trans (congrArg some (by kernel_rfl))
 f257:=Tryz.func296.trans (congrArg some (by kernel_rfl))
 f294:=Tryz.func310.trans (congrArg some (by kernel_rfl))
 f295:=Tryz.func311.trans (congrArg some (by kernel_rfl))
 f296:=Tryz.func312.trans (congrArg some (by kernel_rfl))
 f297:=Tryz.func313.trans (congrArg some (by kernel_rfl))
 f298:=Tryz.func314.trans (congrArg some (by kernel_rfl))
 f299:=Tryz.func315.trans (congrArg some (by kernel_rfl))
 f300:=Tryz.func317.trans (congrArg some (by kernel_rfl))
 f301:=Tryz.func318.trans (congrArg some (by kernel_rfl))
 f328:=Tryz.func322.trans (congrArg some (by kernel_rfl))
 f329:=Tryz.func323.trans (congrArg some (by kernel_rfl))
 f330:=Tryz.func324.trans (congrArg some (by kernel_rfl))
 f331:=Tryz.func325.trans (congrArg some (by kernel_rfl))
 f332:=Tryz.func326.trans (congrArg some (by kernel_rfl))
 f343:=Tryz.func328.trans (congrArg some (by kernel_rfl))
 t0:=Tryz.underlying0
 a0:=Tryz.isAgg0
 z0:=Tryz.sizeOf0
 v0:=Tryz.zeroValue0
 t3:=Tryz.underlying3
 a3:=Tryz.isAgg3
 z3:=Tryz.sizeOf3
 v3:=Tryz.zeroValue3
 t4:=Tryz.underlying4
 a4:=Tryz.isAgg4
 z4:=Tryz.sizeOf4
 v4:=Tryz.zeroValue4
 t5:=Tryz.underlying5
 a5:=Tryz.isAgg5
 z5:=Tryz.sizeOf5
 v5:=Tryz.zeroValue5
 t9:=Tryz.underlying9
 a9:=Tryz.isAgg9
 z9:=Tryz.sizeOf9
 v9:=Tryz.zeroValue9
 t28:=Tryz.underlying228
 a28:=Tryz.isAgg228
 z28:=Tryz.sizeOf228
 v28:=Tryz.zeroValue228
 t46:=Tryz.underlying212
 a46:=Tryz.isAgg212
 z46:=Tryz.sizeOf212
 v46:=Tryz.zeroValue212
 t51:=Tryz.underlying235
 a51:=Tryz.isAgg235
 z51:=Tryz.sizeOf235
 v51:=Tryz.zeroValue235
 t53:=Tryz.underlying213
 a53:=Tryz.isAgg213
 z53:=Tryz.sizeOf213
 v53:=Tryz.zeroValue213
 t131:=Tryz.underlying105
 a131:=Tryz.isAgg105
 z131:=Tryz.sizeOf105
 v131:=Tryz.zeroValue105
 t182:=Tryz.underlying278
 a182:=Tryz.isAgg278
 z182:=Tryz.sizeOf278
 v182:=Tryz.zeroValue278
 t183:=Tryz.underlying279
 a183:=Tryz.isAgg279
 z183:=Tryz.sizeOf279
 v183:=Tryz.zeroValue279
 t218:=Tryz.underlying291
 a218:=Tryz.isAgg291
 z218:=Tryz.sizeOf291
 v218:=Tryz.zeroValue291
 t222:=Tryz.underlying295
 a222:=Tryz.isAgg295
 z222:=Tryz.sizeOf295
 v222:=Tryz.zeroValue295
 t228:=Tryz.underlying297
 a228:=Tryz.isAgg297
 z228:=Tryz.sizeOf297
 v228:=Tryz.zeroValue297
 t229:=Tryz.underlying152
 a229:=Tryz.isAgg152
 z229:=Tryz.sizeOf152
 v229:=Tryz.zeroValue152
def Mm:Go.Shelf.Ren:=⟨fun | 143=>134 | 219=>175 | 217=>216 | 225=>217 | 224=>218 | 267=>219 | 266=>253 | 314=>254 | n=>n,fun | 9=>9 | 3=>3 | 4=>4 | 5=>5 | 46=>212 | 146=>236 | 51=>235 | n=>n,fun | 1=>0 | n=>n⟩
theorem laysIndex:Go.Proofs.LaysM.n143 Tryz.prog Mm where
 mixed:=by kernel_rfl
 f143:=Tryz.func134.trans (congrArg some (by kernel_rfl))
 f217:=Tryz.func216.trans (congrArg some (by kernel_rfl))
 f219:=Tryz.func175.trans (congrArg some (by kernel_rfl))
 f224:=Tryz.func218.trans (congrArg some (by kernel_rfl))
 f225:=Tryz.func217.trans (congrArg some (by kernel_rfl))
 f266:=Tryz.func253.trans (congrArg some (by kernel_rfl))
 f267:=Tryz.func219.trans (congrArg some (by kernel_rfl))
 f314:=Tryz.func254.trans (congrArg some (by kernel_rfl))
 t3:=Tryz.underlying3
 a3:=Tryz.isAgg3
 z3:=Tryz.sizeOf3
 v3:=Tryz.zeroValue3
 t4:=Tryz.underlying4
 a4:=Tryz.isAgg4
 z4:=Tryz.sizeOf4
 v4:=Tryz.zeroValue4
 t5:=Tryz.underlying5
 a5:=Tryz.isAgg5
 z5:=Tryz.sizeOf5
 v5:=Tryz.zeroValue5
 t9:=Tryz.underlying9
 a9:=Tryz.isAgg9
 z9:=Tryz.sizeOf9
 v9:=Tryz.zeroValue9
 t46:=Tryz.underlying212
 a46:=Tryz.isAgg212
 z46:=Tryz.sizeOf212
 v46:=Tryz.zeroValue212
 t51:=Tryz.underlying235
 a51:=Tryz.isAgg235
 z51:=Tryz.sizeOf235
 v51:=Tryz.zeroValue235
 t146:=Tryz.underlying236
 a146:=Tryz.isAgg236
 z146:=Tryz.sizeOf236
 v146:=Tryz.zeroValue236
 g1:=by kernel_rfl
 i3:=by kernel_rfl
 i4:=by kernel_rfl
 i5:=by kernel_rfl
 i9:=by kernel_rfl
 i46:=by kernel_rfl
 i51:=by kernel_rfl
 i146:=by kernel_rfl
 m1:=by kernel_rfl
 s1_3:=fun w h=>Go.Proofs.cell_of_shapedOpen_int (zero:=#[.int .i64 0]) (t:=3) h (of_decide_eq_true (by kernel_rfl)) (by kernel_rfl) rfl (by kernel_rfl) (by kernel_rfl) Tryz.underlying3
theorem HN:fk tab Tryz.prog 124 146:=.inr (uq (e:=(.nm 4)) (fn:=Tryz.f124) (by kernel_rfl) (by kernel_rfl) (by kernel_rfl) (by kernel_rfl) (fun x y h=>by obtain⟨hl,rfl⟩:=Iy (α:=al) (l:=x.1) (show lI (α:=al) x.1 x.2.1 x.2.2.1=some y from h);exact⟨x.1,x.2.1,x.2.2.1,hl,rfl,rfl⟩) (by kernel_rfl) (by kernel_rfl) (fun h=>by cases h) Tryz.func124 (by kernel_rfl) (by kernel_rfl) H1)
theorem HO:fk tab Tryz.prog 134 159:=.inr (Lq (fn:=Tryz.f134) (by kernel_rfl) (by kernel_rfl) (by kernel_rfl) (by kernel_rfl) (fun x y h=>by have h':(if List.length (α:=Int) x.1<4294967281 then some ((ba x.1 x.2.1,()):Int×Unit)else none)=some y:=h;by_cases hl:List.length (α:=Int) x.1<4294967281;(rw[if_pos hl]at h';cases h';exact⟨x.1,x.2.1,hl,rfl,rfl⟩);(rw[if_neg hl]at h';cases h')) (g0:=0) (by kernel_rfl) (by decide) Tryz.func134 (by kernel_rfl) (by kernel_rfl) (fun s sub m w h1 h2=>Any.strings_Index { laysIndex with } s sub m w h1 h2))
theorem HP:fk tab Tryz.prog 164 194:=.inr (LI (fn:=Tryz.f164) (by kernel_rfl) (by kernel_rfl) (by kernel_rfl) (by kernel_rfl) (fun x y h=>by cases h;exact⟨x.1,rfl,rfl⟩) (by decide) Tryz.func164 (by kernel_rfl) (by kernel_rfl) (fun n h0 h1 w h=>Any.strconv_Itoa Mn n h0 h1 w h))
theorem HQ:fk tab Tryz.prog 163 198:=.inr (Ly (e:=(.nm 4)) (fn:=Tryz.f163) (by kernel_rfl) (by kernel_rfl) (by kernel_rfl) (by kernel_rfl) (fun x y h=>by obtain⟨hl,rfl⟩:=Lv (α:=al) (l:=x.1) (show ma (α:=al) x.1 x.2.1 x.2.2.1=some y from h);exact⟨x.1,x.2.1,x.2.2.1,hl,rfl,rfl⟩) (by kernel_rfl) (by kernel_rfl) (fun h=>by cases h) Tryz.func163 (by kernel_rfl) (by kernel_rfl) H2)
theorem HR:fk tab Tryz.prog 242 318:=.inr (Ir (fn:=Tryz.f242) (by kernel_rfl) (by kernel_rfl) (by kernel_rfl) (by kernel_rfl) (fun x y h=>by cases h;exact⟨x.1,x.2.1,rfl,rfl⟩) Tryz.func242 (by kernel_rfl) (by kernel_rfl) (by kernel_rfl) (by kernel_rfl))
theorem HS:fk tab Tryz.prog 223 341:=.inr (Ia (fn:=Tryz.f223) (by kernel_rfl) (by kernel_rfl) (by kernel_rfl) (by kernel_rfl) (fun x y h=>by cases h;exact⟨x.1,x.2.1,rfl,rfl⟩) Tryz.func223 (by kernel_rfl) (by kernel_rfl) (by kernel_rfl) (by kernel_rfl))
theorem HT:fk tab Tryz.prog 272 361:=.inr (Qs (fn:=Tryz.f272) (by kernel_rfl) (by kernel_rfl) (by kernel_rfl) (by kernel_rfl) (fun x y h=>by have h':(if List.length (α:=Int) x.1≤room then some ((ck x.1,()):List Int×Unit)else none)=some y:=h;by_cases hl:List.length (α:=Int) x.1≤room;(rw[if_pos hl]at h';cases h';exact⟨x.1,hl,rfl,rfl⟩);(rw[if_neg hl]at h';cases h')) Tryz.func272 (by kernel_rfl) (by kernel_rfl) (fun blk off cap zs w h1 h2 h3=>Any.slices_Sort_int Cy blk off cap zs w h1 h2 h3) (fun p cap w=>Any.slices_Sort_int_none Cy p cap w))
theorem HU:fk tab Tryz.prog 253 421:=.inr (Lp (fn:=Tryz.f253) (by kernel_rfl) (by kernel_rfl) (by kernel_rfl) (by kernel_rfl) (fun x y h=>by cases h;exact⟨x.1,x.2.1,rfl,rfl⟩) Tryz.func253 (by kernel_rfl) (by kernel_rfl) (by kernel_rfl) (by kernel_rfl))
theorem QC:j0 tab Tryz.prog (zr++zq):=yX ⟨HN,HO,HP,HQ,HR,HS,HT,HU,trivial⟩ (yY (raw:=wV) (dJ:=dJ) (fun _=>rfl) (fun _=>rfl) (by kernel_rfl))
theorem FE:TabOK tab Tryz.prog:=⟨QD,B5 (l:=B4) (by kernel_rfl),zt QC⟩
end Go.Proofs.YtjglhackafgjiaaGreatDoor.E.TB
