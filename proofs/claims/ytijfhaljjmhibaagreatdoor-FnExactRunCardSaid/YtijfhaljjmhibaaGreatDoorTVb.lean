/- What must be shown of the table of V. No condition. -/
import Derived.Test.YtijfhaljjmhibaaGreatDoorTVa
import Derived.Test.YtijfhaljjmhibaaGreatDoorTVc
namespace Go.Proofs.YtijfhaljjmhibaaGreatDoor.E.TV
open Go.Proofs.YtijfhaljjmhibaaGreatDoor.E
set_option linter.unusedVariables false
set_option maxRecDepth 100000
theorem Sk:∀ t ft,tab.ty t=some ft→bL tab.G Tryz.prog tab.ty t ft=true:=Sy (l:=tyL) (by kernel_rfl)
def N4:Go.Shelf.Ren:=⟨fun | 171=>184 | 243=>219 | 246=>249 | 283=>277 | 284=>278 | 285=>279 | 286=>280 | 129=>289 | 317=>299 | 318=>300 | 319=>301 | 320=>302 | 337=>315 | 338=>316 | n=>n,fun | 3=>3 | 9=>9 | 2=>2 | 4=>4 | 171=>266 | 0=>0 | 53=>230 | 37=>146 | 5=>5 | 173=>268 | 212=>280 | 51=>249 | 20=>20 | 213=>281 | 46=>229 | 232=>302 | 233=>303 | n=>n,fun | 17=>7 | 18=>8 | 19=>9 | n=>n⟩
theorem N3:Go.Proofs.LaysM.n171 Tryz.prog N4 where
 mixed:=by kernel_rfl
 f129:=Tryz.func289.trans (congrArg some (by kernel_rfl))
 f171:=Tryz.func184.trans (congrArg some (by kernel_rfl))
 f243:=Tryz.func219.trans (congrArg some (by kernel_rfl))
 f246:=Tryz.func249.trans (congrArg some (by kernel_rfl))
 f283:=Tryz.func277.trans (congrArg some (by kernel_rfl))
 f284:=Tryz.func278.trans (congrArg some (by kernel_rfl))
 f285:=Tryz.func279.trans (congrArg some (by kernel_rfl))
 f286:=Tryz.func280.trans (congrArg some (by kernel_rfl))
 f317:=Tryz.func299.trans (congrArg some (by kernel_rfl))
 f318:=Tryz.func300.trans (congrArg some (by kernel_rfl))
 f319:=Tryz.func301.trans (congrArg some (by kernel_rfl))
 f320:=Tryz.func302.trans (congrArg some (by kernel_rfl))
 f337:=Tryz.func315.trans (congrArg some (by kernel_rfl))
 f338:=Tryz.func316.trans (congrArg some (by kernel_rfl))
 t0:=Tryz.underlying0
 a0:=Tryz.isAgg0
 z0:=Tryz.sizeOf0
 v0:=Tryz.zeroValue0
 t2:=Tryz.underlying2
 a2:=Tryz.isAgg2
 z2:=Tryz.sizeOf2
 v2:=Tryz.zeroValue2
 t3:=Tryz.underlying3
 a3:=Tryz.isAgg3
 z3:=Tryz.sizeOf3
 v3:=Tryz.zeroValue3
 t4:=Tryz.underlying4
 a4:=Tryz.isAgg4
 z4:=Tryz.sizeOf4
 v4:=Tryz.zeroValue4
 t5:=Tryz.underlying5
 a5:=Tryz.isAgg5
 z5:=Tryz.sizeOf5
 v5:=Tryz.zeroValue5
 t9:=Tryz.underlying9
 a9:=Tryz.isAgg9
 z9:=Tryz.sizeOf9
 v9:=Tryz.zeroValue9
 t20:=Tryz.underlying20
 a20:=Tryz.isAgg20
 z20:=Tryz.sizeOf20
 v20:=Tryz.zeroValue20
 t37:=Tryz.underlying146
 a37:=Tryz.isAgg146
 z37:=Tryz.sizeOf146
 v37:=Tryz.zeroValue146
 t46:=Tryz.underlying229
 a46:=Tryz.isAgg229
 z46:=Tryz.sizeOf229
 v46:=Tryz.zeroValue229
 t51:=Tryz.underlying249
 a51:=Tryz.isAgg249
 z51:=Tryz.sizeOf249
 v51:=Tryz.zeroValue249
 t53:=Tryz.underlying230
 a53:=Tryz.isAgg230
 z53:=Tryz.sizeOf230
 v53:=Tryz.zeroValue230
 t171:=Tryz.underlying266
 a171:=Tryz.isAgg266
 z171:=Tryz.sizeOf266
 v171:=Tryz.zeroValue266
 t173:=Tryz.underlying268
 a173:=Tryz.isAgg268
 z173:=Tryz.sizeOf268
 v173:=Tryz.zeroValue268
 t212:=Tryz.underlying280
 a212:=Tryz.isAgg280
 z212:=Tryz.sizeOf280
 v212:=Tryz.zeroValue280
 t213:=Tryz.underlying281
 a213:=Tryz.isAgg281
 z213:=Tryz.sizeOf281
 t232:=Tryz.underlying302
 a232:=Tryz.isAgg302
 z232:=Tryz.sizeOf302
 v232:=Tryz.zeroValue302
 t233:=Tryz.underlying303
 a233:=Tryz.isAgg303
 z233:=Tryz.sizeOf303
 v233:=Tryz.zeroValue303
 g17:=by kernel_rfl
 g18:=by kernel_rfl
 g19:=by kernel_rfl
 i0:=by kernel_rfl
 i2:=by kernel_rfl
 i3:=by kernel_rfl
 i4:=by kernel_rfl
 i5:=by kernel_rfl
 i9:=by kernel_rfl
 i20:=by kernel_rfl
 i37:=by kernel_rfl
 i46:=by kernel_rfl
 i51:=by kernel_rfl
 i53:=by kernel_rfl
 i171:=by kernel_rfl
 i173:=by kernel_rfl
 i212:=by kernel_rfl
 i232:=by kernel_rfl
 i233:=by kernel_rfl
 m17:=by kernel_rfl
 m18:=by kernel_rfl
 m19:=by kernel_rfl
def N5:Go.Shelf.Ren:=⟨fun | 189=>284 | 125=>305 | 257=>304 | 128=>326 | 129=>289 | 294=>317 | 295=>318 | 296=>319 | 297=>320 | 298=>321 | 299=>322 | 216=>323 | 300=>324 | 301=>325 | 328=>327 | 329=>328 | 330=>329 | 331=>330 | 332=>331 | 215=>332 | 343=>333 | n=>n,fun | 28=>243 | 3=>3 | 46=>229 | 0=>0 | 51=>249 | 53=>230 | 4=>4 | 183=>297 | 182=>296 | 131=>117 | 5=>5 | 9=>9 | 218=>304 | 222=>308 | 228=>310 | 229=>153 | n=>n,fun | n=>n⟩
theorem DG:Go.Proofs.Lays.n189 Tryz.prog N5 where
 mixed:=by kernel_rfl
 f125:=Tryz.func305.trans (congrArg some (by kernel_rfl))
 f128:=Tryz.func326.trans (congrArg some (by kernel_rfl))
 f129:=Tryz.func289.trans (congrArg some (by kernel_rfl))
 f189:=Tryz.func284.trans (congrArg some (by kernel_rfl))
 f215:=Tryz.func332.trans (congrArg some (by kernel_rfl))
 f216:=Tryz.func323.trans (congrArg some (by kernel_rfl))
 f257:=Tryz.func304.trans (congrArg some (by kernel_rfl))
 f294:=Tryz.func317.trans (congrArg some (by kernel_rfl))
 f295:=Tryz.func318.trans (congrArg some (by kernel_rfl))
 f296:=Tryz.func319.trans (congrArg some (by kernel_rfl))
 f297:=Tryz.func320.trans (congrArg some (by kernel_rfl))
 f298:=Tryz.func321.trans (congrArg some (by kernel_rfl))
 f299:=Tryz.func322.trans (congrArg some (by kernel_rfl))
 f300:=Tryz.func324.trans (congrArg some (by kernel_rfl))
 f301:=Tryz.func325.trans (congrArg some (by kernel_rfl))
 f328:=Tryz.func327.trans (congrArg some (by kernel_rfl))
 f329:=Tryz.func328.trans (congrArg some (by kernel_rfl))
 f330:=Tryz.func329.trans (congrArg some (by kernel_rfl))
 f331:=Tryz.func330.trans (congrArg some (by kernel_rfl))
 f332:=Tryz.func331.trans (congrArg some (by kernel_rfl))
 f343:=Tryz.func333.trans (congrArg some (by kernel_rfl))
 t0:=Tryz.underlying0
 a0:=Tryz.isAgg0
 z0:=Tryz.sizeOf0
 v0:=Tryz.zeroValue0
 t3:=Tryz.underlying3
 a3:=Tryz.isAgg3
 z3:=Tryz.sizeOf3
 v3:=Tryz.zeroValue3
 t4:=Tryz.underlying4
 a4:=Tryz.isAgg4
 z4:=Tryz.sizeOf4
 v4:=Tryz.zeroValue4
 t5:=Tryz.underlying5
 a5:=Tryz.isAgg5
 z5:=Tryz.sizeOf5
 v5:=Tryz.zeroValue5
 t9:=Tryz.underlying9
 a9:=Tryz.isAgg9
 z9:=Tryz.sizeOf9
 v9:=Tryz.zeroValue9
 t28:=Tryz.underlying243
 a28:=Tryz.isAgg243
 z28:=Tryz.sizeOf243
 v28:=Tryz.zeroValue243
 t46:=Tryz.underlying229
 a46:=Tryz.isAgg229
 z46:=Tryz.sizeOf229
 v46:=Tryz.zeroValue229
 t51:=Tryz.underlying249
 a51:=Tryz.isAgg249
 z51:=Tryz.sizeOf249
 v51:=Tryz.zeroValue249
 t53:=Tryz.underlying230
 a53:=Tryz.isAgg230
 z53:=Tryz.sizeOf230
 v53:=Tryz.zeroValue230
 t131:=Tryz.underlying117
 a131:=Tryz.isAgg117
 z131:=Tryz.sizeOf117
 v131:=Tryz.zeroValue117
 t182:=Tryz.underlying296
 a182:=Tryz.isAgg296
 z182:=Tryz.sizeOf296
 v182:=Tryz.zeroValue296
 t183:=Tryz.underlying297
 a183:=Tryz.isAgg297
 z183:=Tryz.sizeOf297
 v183:=Tryz.zeroValue297
 t218:=Tryz.underlying304
 a218:=Tryz.isAgg304
 z218:=Tryz.sizeOf304
 v218:=Tryz.zeroValue304
 t222:=Tryz.underlying308
 a222:=Tryz.isAgg308
 z222:=Tryz.sizeOf308
 v222:=Tryz.zeroValue308
 t228:=Tryz.underlying310
 a228:=Tryz.isAgg310
 z228:=Tryz.sizeOf310
 v228:=Tryz.zeroValue310
 t229:=Tryz.underlying153
 a229:=Tryz.isAgg153
 z229:=Tryz.sizeOf153
 v229:=Tryz.zeroValue153
def N2:Go.Shelf.Ren:=⟨fun | 143=>145 | 219=>192 | 217=>228 | 225=>229 | 224=>230 | 267=>231 | 266=>260 | 314=>261 | n=>n,fun | 9=>9 | 3=>3 | 4=>4 | 5=>5 | 46=>229 | 146=>250 | 51=>249 | n=>n,fun | 1=>0 | n=>n⟩
theorem laysIndex:Go.Proofs.LaysM.n143 Tryz.prog N2 where
 mixed:=by kernel_rfl
 f143:=Tryz.func145.trans (congrArg some (by kernel_rfl))
 f217:=Tryz.func228.trans (congrArg some (by kernel_rfl))
 f219:=Tryz.func192.trans (congrArg some (by kernel_rfl))
 f224:=Tryz.func230.trans (congrArg some (by kernel_rfl))
 f225:=Tryz.func229.trans (congrArg some (by kernel_rfl))
 f266:=Tryz.func260.trans (congrArg some (by kernel_rfl))
 f267:=Tryz.func231.trans (congrArg some (by kernel_rfl))
 f314:=Tryz.func261.trans (congrArg some (by kernel_rfl))
 t3:=Tryz.underlying3
 a3:=Tryz.isAgg3
 z3:=Tryz.sizeOf3
 v3:=Tryz.zeroValue3
 t4:=Tryz.underlying4
 a4:=Tryz.isAgg4
 z4:=Tryz.sizeOf4
 v4:=Tryz.zeroValue4
 t5:=Tryz.underlying5
 a5:=Tryz.isAgg5
 z5:=Tryz.sizeOf5
 v5:=Tryz.zeroValue5
 t9:=Tryz.underlying9
 a9:=Tryz.isAgg9
 z9:=Tryz.sizeOf9
 v9:=Tryz.zeroValue9
 t46:=Tryz.underlying229
 a46:=Tryz.isAgg229
 z46:=Tryz.sizeOf229
 v46:=Tryz.zeroValue229
 t51:=Tryz.underlying249
 a51:=Tryz.isAgg249
 z51:=Tryz.sizeOf249
 v51:=Tryz.zeroValue249
 t146:=Tryz.underlying250
 a146:=Tryz.isAgg250
 z146:=Tryz.sizeOf250
 v146:=Tryz.zeroValue250
 g1:=by kernel_rfl
 i3:=by kernel_rfl
 i4:=by kernel_rfl
 i5:=by kernel_rfl
 i9:=by kernel_rfl
 i46:=by kernel_rfl
 i51:=by kernel_rfl
 i146:=by kernel_rfl
 m1:=by kernel_rfl
 s1_3:=fun w h=>Go.Proofs.cell_of_shapedOpen_int (zero:=#[.int .i64 0]) (t:=3) h (of_decide_eq_true (by kernel_rfl)) (by kernel_rfl) rfl (by kernel_rfl) (by kernel_rfl) Tryz.underlying3
theorem Jb:fG tab Tryz.prog 136 188:=.inr (vf (e:=(.nm 7)) (fn:=Tryz.f136) (by kernel_rfl) (by kernel_rfl) (by kernel_rfl) (by kernel_rfl) (fun x y h=>by obtain⟨hl,rfl⟩:=JW (α:=al) (l:=x.1) (show l5 (α:=al) x.1 x.2.1 x.2.2.1=some y from h);exact⟨x.1,x.2.1,x.2.2.1,hl,rfl,rfl⟩) (by kernel_rfl) (by kernel_rfl) (fun h=>by cases h) Tryz.func136 (by kernel_rfl) (by kernel_rfl) Jp)
theorem Jc:fG tab Tryz.prog 145 198:=.inr (MY (fn:=Tryz.f145) (by kernel_rfl) (by kernel_rfl) (by kernel_rfl) (by kernel_rfl) (fun x y h=>by have h':(if List.length (α:=Int) x.1<4294967281 then some ((bh x.1 x.2.1,()):Int×Unit)else none)=some y:=h;by_cases hl:List.length (α:=Int) x.1<4294967281;(rw[if_pos hl]at h';cases h';exact⟨x.1,x.2.1,hl,rfl,rfl⟩);(rw[if_neg hl]at h';cases h')) (g0:=0) (by kernel_rfl) (by decide) Tryz.func145 (by kernel_rfl) (by kernel_rfl) (fun s sub m w h1 h2=>Any.strings_Index { laysIndex with } s sub m w h1 h2))
theorem Jd:fG tab Tryz.prog 179 240:=.inr (JA (fn:=Tryz.f179) (by kernel_rfl) (by kernel_rfl) (by kernel_rfl) (by kernel_rfl) (fun x y h=>by cases h;exact⟨x.1,x.2.1,rfl,rfl⟩) Tryz.func179 (by kernel_rfl) (by kernel_rfl) (by kernel_rfl) (by kernel_rfl))
theorem Je:fG tab Tryz.prog 184 242:=.inr (Ng (fn:=Tryz.f184) (by kernel_rfl) (by kernel_rfl) (by kernel_rfl) (by kernel_rfl) (fun x y h=>by cases h;exact⟨x.1,rfl,rfl⟩) (by decide) Tryz.func184 (by kernel_rfl) (by kernel_rfl) (fun n h0 h1 w h=>Any.strconv_Itoa N3 n h0 h1 w h))
theorem Jf:fG tab Tryz.prog 183 246:=.inr (M6 (e:=(.nm 7)) (fn:=Tryz.f183) (by kernel_rfl) (by kernel_rfl) (by kernel_rfl) (by kernel_rfl) (fun x y h=>by obtain⟨hl,rfl⟩:=M3 (α:=al) (l:=x.1) (show mv (α:=al) x.1 x.2.1 x.2.2.1=some y from h);exact⟨x.1,x.2.1,x.2.2.1,hl,rfl,rfl⟩) (by kernel_rfl) (by kernel_rfl) (fun h=>by cases h) Tryz.func183 (by kernel_rfl) (by kernel_rfl) Jq)
theorem Jg:fG tab Tryz.prog 251 347:=.inr (JP (fn:=Tryz.f251) (by kernel_rfl) (by kernel_rfl) (by kernel_rfl) (by kernel_rfl) (fun x y h=>by cases h;exact⟨x.1,x.2.1,rfl,rfl⟩) Tryz.func251 (by kernel_rfl) (by kernel_rfl) (by kernel_rfl) (by kernel_rfl))
theorem Jh:fG tab Tryz.prog 284 390:=.inr (Sc (fn:=Tryz.f284) (by kernel_rfl) (by kernel_rfl) (by kernel_rfl) (by kernel_rfl) (fun x y h=>by have h':(if List.length (α:=Int) x.1≤room then some ((cy x.1,()):List Int×Unit)else none)=some y:=h;by_cases hl:List.length (α:=Int) x.1≤room;(rw[if_pos hl]at h';cases h';exact⟨x.1,hl,rfl,rfl⟩);(rw[if_neg hl]at h';cases h')) Tryz.func284 (by kernel_rfl) (by kernel_rfl) (fun blk off cap zs w h1 h2 h3=>Any.slices_Sort_int DG blk off cap zs w h1 h2 h3) (fun p cap w=>Any.slices_Sort_int_none DG p cap w))
theorem Ji:fG tab Tryz.prog 260 452:=.inr (MX (fn:=Tryz.f260) (by kernel_rfl) (by kernel_rfl) (by kernel_rfl) (by kernel_rfl) (fun x y h=>by cases h;exact⟨x.1,x.2.1,rfl,rfl⟩) Tryz.func260 (by kernel_rfl) (by kernel_rfl) (by kernel_rfl) (by kernel_rfl))
theorem Sj:kp tab Tryz.prog (Aq++Ap):=zW ⟨Jb,Jc,Jd,Je,Jf,Jg,Jh,Ji,trivial⟩ (zX (raw:=xR) (dQ:=dQ) (fun _=>rfl) (fun _=>rfl) (by kernel_rfl))
theorem tH:TabOK tab Tryz.prog:=⟨Sk,C9 (l:=C8) (by kernel_rfl),Ar Sj⟩
end Go.Proofs.YtijfhaljjmhibaaGreatDoor.E.TV
