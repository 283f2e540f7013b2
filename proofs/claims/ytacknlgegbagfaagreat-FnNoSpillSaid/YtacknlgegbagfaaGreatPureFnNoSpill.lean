/- The pure statement of FnNoSpill. No condition. -/
import Derived.Test.YtacknlgegbagfaaGreatM3
import Derived.Test.YtacknlgegbagfaaGreatTNe1
import Derived.Test.YtacknlgegbagfaaGreatTNe2
import Derived.Test.YtacknlgegbagfaaGreatTNe3
import Derived.Test.YtacknlgegbagfaaGreatQFnNoSpill
namespace Go.Proofs.YtacknlgegbagfaaGreat.E.TN
open Go.Proofs.YtacknlgegbagfaaGreat.E
set_option linter.unusedVariables false
theorem IL{b:List Int}{p:Int}{r:bB}{q:Int}(h:gt b p=some (r,q,false,())):r.Kind=0:=by
 rw[qa]at h
 obtain⟨r0,_,h⟩:=Option.bind_eq_some_iff.1 h
 split at h
 ·cases h;rfl
 split at h
 ·cases h;rfl
 split at h
 ·obtain⟨r1,_,h⟩:=Option.bind_eq_some_iff.1 h
  split at h
  ·cases h;rfl
  split at h
  ·cases h;rfl
  obtain⟨r2,_,h⟩:=Option.bind_eq_some_iff.1 h
  split at h
  ·obtain⟨r3,_,h⟩:=Option.bind_eq_some_iff.1 h
   split at h
   ·cases h;rfl
   ·simp at h
  ·cases h
 ·cases h
theorem Iv:Bl:=by
 intro b hb
 have hb':b.length≤9223372036854775807∧∀ x∈b,IntKind.u8.wrap x=x:=hb
 have hw:Bytes b:=fun x hx=>by have:=hb'.2 x hx;rw[← this];exact gJ x
 rw[D6,BF,aa]
 by_cases h:(b.length:Int)>1048576
 ·rw[ak h]
 rw[aj h]
 have hl:b.length≤1048576:=by omega
 obtain⟨⟨z,p,u⟩,e1,⟨z1,z2⟩,p1,p2⟩:=IM hl
 dsimp only at z1 z2 p1 p2
 have zw:Bytes z:=z2
 obtain⟨⟨a,v⟩,e5,_⟩:=wh hl hw 1 (by omega) (by omega)
 obtain⟨⟨a',v'⟩,e6,_⟩:=wh hl hw 2 (by omega) (by omega)
 obtain⟨r,q,ok,f1,f2,f3,f4⟩:=y9 z (by omega) zw p (by omega)
 rw[e1,aa]
 dsimp only
 rw[f2,aa,f1,aa]
 dsimp only
 rw[bn (by simp),bn (by simp)]
 cases ok with
 | false=>rw[bm (by rfl),ac (IL f2)]
 | true =>
  obtain⟨g1,g2,g3,g4⟩:=f4 rfl
  obtain⟨_,_,s3⟩:=DT (by omega) zw (by omega) (show kd z p r q from f2)
  have hm:List.append (List.append [] (List.take (q.toNat-0) (List.drop 0 z))) [w8 a,w8 a']=z.take q.toNat++[w8 a,w8 a']:=rfl
  have hml:(z.take q.toNat).length=q.toNat:=by rw[aQ];omega
  have hq:gt (z.take q.toNat++[w8 a,w8 a']) p=some (r,q,true,()):=s3 _ (by simp;omega) (fun x hx=>by
   rcases aB.1 hx with hx | hx
   ·exact zw x (List.mem_of_mem_take hx)
   ·rcases aL.1 hx with rfl | hx
    ·exact gJ _
    ·rw[aK.1 hx];exact gJ _) (by simp;omega) (by rw[List.take_left' hml])
  rw[bn (by simp),al,bm (by rw[b6,aQ,aR];omega),e5,aa,e6,aa]
  dsimp only
  have hr2:(List.append [] (List.take (q.toNat-0) (List.drop 0 z))).length+2≤room:=by
   show(List.take (q.toNat-0) (List.drop 0 z)).length+2≤room
   rw[b6,aQ,aR];omega
  rw[bm hr2,hm,hq,aa]
  dsimp only
  rw[bm rfl,ak rfl,p9 r (by omega),aa,aa,ac rfl]
end Go.Proofs.YtacknlgegbagfaaGreat.E.TN
