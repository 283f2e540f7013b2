/- What must be shown of the table of G. No condition. -/
import Derived.Test.YthgknhkeifcflaaGreatDoorTGa
import Derived.Test.YthgknhkeifcflaaGreatDoorTGc
namespace Go.Proofs.YthgknhkeifcflaaGreatDoor.E.TG
open Go.Proofs.YthgknhkeifcflaaGreatDoor.E
set_option linter.unusedVariables false
set_option maxRecDepth 100000
theorem S9:∀ t ft,tab.ty t=some ft→cY tab.G Tryz.prog tab.ty t ft=true:=Tl (l:=tyL) (by kernel_rfl)
def ON:Go.Shelf.Ren:=⟨fun | 171=>235 | 243=>278 | 246=>306 | 283=>329 | 284=>330 | 285=>331 | 286=>332 | 129=>345 | 317=>353 | 318=>354 | 319=>355 | 320=>356 | 337=>368 | 338=>369 | n=>n,fun | 3=>3 | 9=>9 | 2=>2 | 4=>4 | 171=>307 | 0=>0 | 53=>278 | 37=>125 | 5=>5 | 173=>309 | 212=>324 | 51=>286 | 20=>20 | 213=>325 | 46=>263 | 232=>351 | 233=>352 | n=>n,fun | 17=>5 | 18=>8 | 19=>9 | n=>n⟩
theorem OM:Go.Proofs.LaysM.n171 Tryz.prog ON where
 mixed:=by kernel_rfl
 f129:=Tryz.func345.trans (congrArg some (by kernel_rfl))
 f171:=Tryz.func235.trans (congrArg some (by kernel_rfl))
 f243:=Tryz.func278.trans (congrArg some (by kernel_rfl))
 f246:=Tryz.func306.trans (congrArg some (by kernel_rfl))
 f283:=Tryz.func329.trans (congrArg some (by kernel_rfl))
 f284:=Tryz.func330.trans (congrArg some (by kernel_rfl))
 f285:=Tryz.func331.trans (congrArg some (by kernel_rfl))
 f286:=Tryz.func332.trans (congrArg some (by kernel_rfl))
 f317:=Tryz.func353.trans (congrArg some (by kernel_rfl))
 f318:=Tryz.func354.trans (congrArg some (by kernel_rfl))
 f319:=Tryz.func355.trans (congrArg some (by kernel_rfl))
 f320:=Tryz.func356.trans (congrArg some (by kernel_rfl))
 f337:=Tryz.func368.trans (congrArg some (by kernel_rfl))
 f338:=Tryz.func369.trans (congrArg some (by kernel_rfl))
 t0:=Tryz.underlying0
 a0:=Tryz.isAgg0
 z0:=Tryz.sizeOf0
 v0:=Tryz.zeroValue0
 t2:=Tryz.underlying2
 a2:=Tryz.isAgg2
 z2:=Tryz.sizeOf2
 v2:=Tryz.zeroValue2
 t3:=Tryz.underlying3
 a3:=Tryz.isAgg3
 z3:=Tryz.sizeOf3
 v3:=Tryz.zeroValue3
 t4:=Tryz.underlying4
 a4:=Tryz.isAgg4
 z4:=Tryz.sizeOf4
 v4:=Tryz.zeroValue4
 t5:=Tryz.underlying5
 a5:=Tryz.isAgg5
 z5:=Tryz.sizeOf5
 v5:=Tryz.zeroValue5
 t9:=Tryz.underlying9
 a9:=Tryz.isAgg9
 z9:=Tryz.sizeOf9
 v9:=Tryz.zeroValue9
 t20:=Tryz.underlying20
 a20:=Tryz.isAgg20
 z20:=Tryz.sizeOf20
 v20:=Tryz.zeroValue20
 t37:=Tryz.underlying125
 a37:=Tryz.isAgg125
 z37:=Tryz.sizeOf125
 v37:=Tryz.zeroValue125
 t46:=Tryz.underlying263
 a46:=Tryz.isAgg263
 z46:=Tryz.sizeOf263
 v46:=Tryz.zeroValue263
 t51:=Tryz.underlying286
 a51:=Tryz.isAgg286
 z51:=Tryz.sizeOf286
 v51:=Tryz.zeroValue286
 t53:=Tryz.underlying278
 a53:=Tryz.isAgg278
 z53:=Tryz.sizeOf278
 v53:=Tryz.zeroValue278
 t171:=Tryz.underlying307
 a171:=Tryz.isAgg307
 z171:=Tryz.sizeOf307
 v171:=Tryz.zeroValue307
 t173:=Tryz.underlying309
 a173:=Tryz.isAgg309
 z173:=Tryz.sizeOf309
 v173:=Tryz.zeroValue309
 t212:=Tryz.underlying324
 a212:=Tryz.isAgg324
 z212:=Tryz.sizeOf324
 v212:=Tryz.zeroValue324
 t213:=Tryz.underlying325
 a213:=Tryz.isAgg325
 z213:=Tryz.sizeOf325
 t232:=Tryz.underlying351
 a232:=Tryz.isAgg351
 z232:=Tryz.sizeOf351
 v232:=Tryz.zeroValue351
 t233:=Tryz.underlying352
 a233:=Tryz.isAgg352
 z233:=Tryz.sizeOf352
 v233:=Tryz.zeroValue352
 g17:=by kernel_rfl
 g18:=by kernel_rfl
 g19:=by kernel_rfl
 i0:=by kernel_rfl
 i2:=by kernel_rfl
 i3:=by kernel_rfl
 i4:=by kernel_rfl
 i5:=by kernel_rfl
 i9:=by kernel_rfl
 i20:=by kernel_rfl
 i37:=by kernel_rfl
 i46:=by kernel_rfl
 i51:=by kernel_rfl
 i53:=by kernel_rfl
 i171:=by kernel_rfl
 i173:=by kernel_rfl
 i212:=by kernel_rfl
 i232:=by kernel_rfl
 i233:=by kernel_rfl
 m17:=by kernel_rfl
 m18:=by kernel_rfl
 m19:=by kernel_rfl
def OO:Go.Shelf.Ren:=⟨fun | 189=>334 | 125=>358 | 257=>357 | 128=>379 | 129=>345 | 294=>370 | 295=>371 | 296=>372 | 297=>373 | 298=>374 | 299=>375 | 216=>376 | 300=>377 | 301=>378 | 328=>382 | 329=>383 | 330=>384 | 331=>385 | 332=>386 | 215=>387 | 343=>388 | n=>n,fun | 28=>31 | 3=>3 | 46=>263 | 0=>0 | 51=>286 | 53=>278 | 4=>4 | 183=>341 | 182=>340 | 131=>184 | 5=>5 | 9=>9 | 218=>353 | 222=>357 | 228=>359 | 229=>225 | n=>n,fun | n=>n⟩
theorem En:Go.Proofs.Lays.n189 Tryz.prog OO where
 mixed:=by kernel_rfl
 f125:=Tryz.func358.trans (congrArg some (by kernel_rfl))
 f128:=Tryz.func379.trans (congrArg some (by kernel_rfl))
 f129:=Tryz.func345.trans (congrArg some (by kernel_rfl))
 f189:=Tryz.func334.trans (congrArg some (by kernel_rfl))
 f215:=Tryz.func387.trans (congrArg some (by kernel_rfl))
 f216:=Tryz.func376.trans (congrArg some (by kernel_rfl))
 f257:=Tryz.func357.trans (congrArg some (by kernel_rfl))
 f294:=Tryz.func370.trans (congrArg some (by kernel_rfl))
 f295:=Tryz.func371.trans (congrArg some (by kernel_rfl))
 f296:=Tryz.func372.trans (congrArg some (by kernel_rfl))
 f297:=Tryz.func373.trans (congrArg some (by kernel_rfl))
 f298:=Tryz.func374.trans (congrArg some (by kernel_rfl))
 f299:=Tryz.func375.trans (congrArg some (by kernel_rfl))
 f300:=Tryz.func377.trans (congrArg some (by kernel_rfl))
 f301:=Tryz.func378.trans (congrArg some (by kernel_rfl))
 f328:=Tryz.func382.trans (congrArg some (by kernel_rfl))
 f329:=Tryz.func383.trans (congrArg some (by kernel_rfl))
 f330:=Tryz.func384.trans (congrArg some (by kernel_rfl))
 f331:=Tryz.func385.trans (congrArg some (by kernel_rfl))
 f332:=Tryz.func386.trans (congrArg some (by kernel_rfl))
 f343:=Tryz.func388.trans (congrArg some (by kernel_rfl))
 t0:=Tryz.underlying0
 a0:=Tryz.isAgg0
 z0:=Tryz.sizeOf0
 v0:=Tryz.zeroValue0
 t3:=Tryz.underlying3
 a3:=Tryz.isAgg3
 z3:=Tryz.sizeOf3
 v3:=Tryz.zeroValue3
 t4:=Tryz.underlying4
 a4:=Tryz.isAgg4
 z4:=Tryz.sizeOf4
 v4:=Tryz.zeroValue4
 t5:=Tryz.underlying5
 a5:=Tryz.isAgg5
 z5:=Tryz.sizeOf5
 v5:=Tryz.zeroValue5
 t9:=Tryz.underlying9
 a9:=Tryz.isAgg9
 z9:=Tryz.sizeOf9
 v9:=Tryz.zeroValue9
 t28:=Tryz.underlying31
 a28:=Tryz.isAgg31
 z28:=Tryz.sizeOf31
 v28:=Tryz.zeroValue31
 t46:=Tryz.underlying263
 a46:=Tryz.isAgg263
 z46:=Tryz.sizeOf263
 v46:=Tryz.zeroValue263
 t51:=Tryz.underlying286
 a51:=Tryz.isAgg286
 z51:=Tryz.sizeOf286
 v51:=Tryz.zeroValue286
 t53:=Tryz.underlying278
 a53:=Tryz.isAgg278
 z53:=Tryz.sizeOf278
 v53:=Tryz.zeroValue278
 t131:=Tryz.underlying184
 a131:=Tryz.isAgg184
 z131:=Tryz.sizeOf184
 v131:=Tryz.zeroValue184
 t182:=Tryz.underlying340
 a182:=Tryz.isAgg340
 z182:=Tryz.sizeOf340
 v182:=Tryz.zeroValue340
 t183:=Tryz.underlying341
 a183:=Tryz.isAgg341
 z183:=Tryz.sizeOf341
 v183:=Tryz.zeroValue341
 t218:=Tryz.underlying353
 a218:=Tryz.isAgg353
 z218:=Tryz.sizeOf353
 v218:=Tryz.zeroValue353
 t222:=Tryz.underlying357
 a222:=Tryz.isAgg357
 z222:=Tryz.sizeOf357
 v222:=Tryz.zeroValue357
 t228:=Tryz.underlying359
 a228:=Tryz.isAgg359
 z228:=Tryz.sizeOf359
 v228:=Tryz.zeroValue359
 t229:=Tryz.underlying225
 a229:=Tryz.isAgg225
 z229:=Tryz.sizeOf225
 v229:=Tryz.zeroValue225
def OL:Go.Shelf.Ren:=⟨fun | 143=>180 | 219=>211 | 217=>256 | 225=>257 | 224=>258 | 267=>259 | 266=>293 | 314=>294 | n=>n,fun | 9=>9 | 3=>3 | 4=>4 | 5=>5 | 46=>263 | 146=>287 | 51=>286 | n=>n,fun | 1=>0 | n=>n⟩
theorem laysIndex:Go.Proofs.LaysM.n143 Tryz.prog OL where
 mixed:=by kernel_rfl
 f143:=Tryz.func180.trans (congrArg some (by kernel_rfl))
 f217:=Tryz.func256.trans (congrArg some (by kernel_rfl))
 f219:=Tryz.func211.trans (congrArg some (by kernel_rfl))
 f224:=Tryz.func258.trans (congrArg some (by kernel_rfl))
 f225:=Tryz.func257.trans (congrArg some (by kernel_rfl))
 f266:=Tryz.func293.trans (congrArg some (by kernel_rfl))
 f267:=Tryz.func259.trans (congrArg some (by kernel_rfl))
 f314:=Tryz.func294.trans (congrArg some (by kernel_rfl))
 t3:=Tryz.underlying3
 a3:=Tryz.isAgg3
 z3:=Tryz.sizeOf3
 v3:=Tryz.zeroValue3
 t4:=Tryz.underlying4
 a4:=Tryz.isAgg4
 z4:=Tryz.sizeOf4
 v4:=Tryz.zeroValue4
 t5:=Tryz.underlying5
 a5:=Tryz.isAgg5
 z5:=Tryz.sizeOf5
 v5:=Tryz.zeroValue5
 t9:=Tryz.underlying9
 a9:=Tryz.isAgg9
 z9:=Tryz.sizeOf9
 v9:=Tryz.zeroValue9
 t46:=Tryz.underlying263
 a46:=Tryz.isAgg263
 z46:=Tryz.sizeOf263
 v46:=Tryz.zeroValue263
 t51:=Tryz.underlying286
 a51:=Tryz.isAgg286
 z51:=Tryz.sizeOf286
 v51:=Tryz.zeroValue286
 t146:=Tryz.underlying287
 a146:=Tryz.isAgg287
 z146:=Tryz.sizeOf287
 v146:=Tryz.zeroValue287
 g1:=by kernel_rfl
 i3:=by kernel_rfl
 i4:=by kernel_rfl
 i5:=by kernel_rfl
 i9:=by kernel_rfl
 i46:=by kernel_rfl
 i51:=by kernel_rfl
 i146:=by kernel_rfl
 m1:=by kernel_rfl
 s1_3:=fun w h=>Go.Proofs.cell_of_shapedOpen_int (zero:=#[.int .i64 0]) (t:=3) h (of_decide_eq_true (by kernel_rfl)) (by kernel_rfl) rfl (by kernel_rfl) (by kernel_rfl) Tryz.underlying3
theorem JE:gI tab Tryz.prog 195 209:=.inr (wa (e:=(.nm 4)) (fn:=Tryz.f195) (by kernel_rfl) (by kernel_rfl) (by kernel_rfl) (by kernel_rfl) (fun x y h=>by obtain⟨hl,rfl⟩:=Km (α:=bo) (l:=x.1) (show nf (α:=bo) x.1 x.2.1 x.2.2.1=some y from h);exact⟨x.1,x.2.1,x.2.2.1,hl,rfl,rfl⟩) (by kernel_rfl) (by kernel_rfl) (fun h=>by cases h) Tryz.func195 (by kernel_rfl) (by kernel_rfl) JS)
theorem JF:gI tab Tryz.prog 180 222:=.inr (Ny (fn:=Tryz.f180) (by kernel_rfl) (by kernel_rfl) (by kernel_rfl) (by kernel_rfl) (fun x y h=>by have h':(if List.length (α:=Int) x.1<4294967281 then some ((cC x.1 x.2.1,()):Int×Unit)else none)=some y:=h;by_cases hl:List.length (α:=Int) x.1<4294967281;(rw[if_pos hl]at h';cases h';exact⟨x.1,x.2.1,hl,rfl,rfl⟩);(rw[if_neg hl]at h';cases h')) (g0:=0) (by kernel_rfl) (by decide) Tryz.func180 (by kernel_rfl) (by kernel_rfl) (fun s sub m w h1 h2=>Any.strings_Index { laysIndex with } s sub m w h1 h2))
theorem JG:gI tab Tryz.prog 235 261:=.inr (NQ (fn:=Tryz.f235) (by kernel_rfl) (by kernel_rfl) (by kernel_rfl) (by kernel_rfl) (fun x y h=>by cases h;exact⟨x.1,rfl,rfl⟩) (by decide) Tryz.func235 (by kernel_rfl) (by kernel_rfl) (fun n h0 h1 w h=>Any.strconv_Itoa OM n h0 h1 w h))
theorem JH:gI tab Tryz.prog 234 265:=.inr (NG (e:=(.nm 4)) (fn:=Tryz.f234) (by kernel_rfl) (by kernel_rfl) (by kernel_rfl) (by kernel_rfl) (fun x y h=>by obtain⟨hl,rfl⟩:=ND (α:=bo) (l:=x.1) (show nI (α:=bo) x.1 x.2.1 x.2.2.1=some y from h);exact⟨x.1,x.2.1,x.2.2.1,hl,rfl,rfl⟩) (by kernel_rfl) (by kernel_rfl) (fun h=>by cases h) Tryz.func234 (by kernel_rfl) (by kernel_rfl) JT)
theorem JI:gI tab Tryz.prog 308 363:=.inr (Kf (fn:=Tryz.f308) (by kernel_rfl) (by kernel_rfl) (by kernel_rfl) (by kernel_rfl) (fun x y h=>by cases h;exact⟨x.1,x.2.1,rfl,rfl⟩) Tryz.func308 (by kernel_rfl) (by kernel_rfl) (by kernel_rfl) (by kernel_rfl))
theorem JJ:gI tab Tryz.prog 255 386:=.inr (J1 (fn:=Tryz.f255) (by kernel_rfl) (by kernel_rfl) (by kernel_rfl) (by kernel_rfl) (fun x y h=>by cases h;exact⟨x.1,x.2.1,rfl,rfl⟩) Tryz.func255 (by kernel_rfl) (by kernel_rfl) (by kernel_rfl) (by kernel_rfl))
theorem JK:gI tab Tryz.prog 334 407:=.inr (SU (fn:=Tryz.f334) (by kernel_rfl) (by kernel_rfl) (by kernel_rfl) (by kernel_rfl) (fun x y h=>by have h':(if List.length (α:=Int) x.1≤room then some ((dL x.1,()):List Int×Unit)else none)=some y:=h;by_cases hl:List.length (α:=Int) x.1≤room;(rw[if_pos hl]at h';cases h';exact⟨x.1,hl,rfl,rfl⟩);(rw[if_neg hl]at h';cases h')) Tryz.func334 (by kernel_rfl) (by kernel_rfl) (fun blk off cap zs w h1 h2 h3=>Any.slices_Sort_int En blk off cap zs w h1 h2 h3) (fun p cap w=>Any.slices_Sort_int_none En p cap w))
theorem JL:gI tab Tryz.prog 293 447:=.inr (Nx (fn:=Tryz.f293) (by kernel_rfl) (by kernel_rfl) (by kernel_rfl) (by kernel_rfl) (fun x y h=>by cases h;exact⟨x.1,x.2.1,rfl,rfl⟩) Tryz.func293 (by kernel_rfl) (by kernel_rfl) (by kernel_rfl) (by kernel_rfl))
theorem S8:lu tab Tryz.prog (Bi++Bh):=AU ⟨JE,JF,JG,JH,JI,JJ,JK,JL,trivial⟩ (AV (raw:=yR) (fc:=fc) (fun _=>rfl) (fun _=>rfl) (by kernel_rfl))
theorem Hz:TabOK tab Tryz.prog:=⟨S9,DM (l:=DL) (by kernel_rfl),Bj S8⟩
end Go.Proofs.YthgknhkeifcflaaGreatDoor.E.TG
