/- The pure statement of FnTorn. No condition. -/
import Derived.Test.YtacknlgegbagfaaGreatM3
import Derived.Test.YtacknlgegbagfaaGreatTTe1
import Derived.Test.YtacknlgegbagfaaGreatTTe2
import Derived.Test.YtacknlgegbagfaaGreatTTe3
import Derived.Test.YtacknlgegbagfaaGreatQFnTorn
namespace Go.Proofs.YtacknlgegbagfaaGreat.E.TT
open Go.Proofs.YtacknlgegbagfaaGreat.E
set_option linter.unusedVariables false
theorem Cq(a:List bB)(r:bB):dw (a++[r])=dw a++dq r:=by
 induction a with
 | nil=>simp[dw]
 | cons x a ih=>rw[List.cons_append,dw,dw,ih,ah]
theorem Cr(a t:List bB):(dw a).length≤(dw (a++t)).length:=by
 induction a with
 | nil=>simp[dw]
 | cons x a ih=>rw[List.cons_append,dw,dw,ag,ag];omega
theorem Mn(l t:List bB)(q cut:Int)(hs:pC (l++t))(hl:(l++t).length≤1048576)(hc:q≤cut→t=[]):∀ (d i:Nat),i+d=l.length→qq (l++t) q cut l (i:Int)=some (true,()):=by
 rw[ag]at hl
 intro d
 induction d with
 | zero =>
  intro i hd
  rw[yr,aq]
  by_cases c:cut<q
  ·rw[ak c]
  ·rw[aj c,hc (by omega),aI,ac rfl]
 | succ d ih =>
  intro i hd
  have hi:i<l.length:=by omega
  have hi2:i<(l++t).length:=by rw[ag];omega
  have e:(l++t)[i]=l[i]:=List.getElem_append_left hi
  have hsh:=hs _ (aW hi2)
  rw[e]at hsh
  rw[yr,ap,al,cV hi,jF _ (by omega),aa,bm (by rw[ag];omega),cV hi2,e,jF _ (by omega),aa,cL hi (by omega)]
  dsimp only
  rw[bn (by simp)]
  exact ih (i+1) (by omega)
theorem IW:BH:=by
 intro b hb
 have hb':b.length≤9223372036854775807∧∀ x∈b,IntKind.u8.wrap x=x:=hb
 have hw:Bytes b:=fun x hx=>by have:=hb'.2 x hx;rw[← this];exact jo x
 rw[Es,B1,aa]
 by_cases h:(b.length:Int)>1048576
 ·rw[ak h]
 rw[aj h]
 have hl:b.length≤1048576:=by omega
 obtain⟨⟨z,u⟩,e1,z1,z2⟩:=Jd hl
 dsimp only at z1 z2
 have zw:Bytes z:=z2
 obtain⟨l,q,f1,f2,f3,f4⟩:=zt z (by omega) zw
 obtain⟨r1,r2,r3,r4⟩:=zr (by omega) zw f2
 have hcat:=Jo (by omega) zw r1 (by omega) (by omega)
 rw[show((0:Int).toNat)=0 from rfl,List.take_zero,bg]at hcat
 obtain⟨⟨a,v⟩,e5,a1,a2⟩:=BW hl hw 2 (by omega) (by omega)
 dsimp only at a1 a2
 rw[e1,aa]
 dsimp only
 rw[f2,aa,f1,aa]
 dsimp only
 rw[bn (by simp),bn (by simp)]
 have w1:w64 (q+1)=q+1:=ar
 have hmul:0≤a*(q+1)∧a*(q+1)≤255*(q+1):=⟨Int.mul_nonneg a1 (by omega),Int.mul_le_mul_of_nonneg_right a2 (by omega)⟩
 have w2:w64 (a*(q+1))=a*(q+1):=ar
 have w3:w64 (Int.tdiv (a*(q+1)) 256)=a*(q+1)/256:=by rw[ba hmul.1];exact ar
 obtain⟨cut,hcut⟩:∃ cut:Int,cut=a*(q+1)/256:=⟨_,rfl⟩
 have hc1:0≤cut∧cut≤q:=by omega
 have hzl:(List.take (cut.toNat-0) (List.drop 0 z)).length≤1048576:=by rw[aQ,aR];omega
 have hzw:Bytes (List.take (cut.toNat-0) (List.drop 0 z)):=fun x hx=>zw x (List.mem_of_mem_drop (List.mem_of_mem_take hx))
 have hzlen:((List.take (cut.toNat-0) (List.drop 0 z)).length:Int)=cut:=by rw[aQ,aR];omega
 obtain⟨l2,k,g1,g2,g3,g4⟩:=zt _ hzl hzw
 obtain⟨s1,s2,s3,s4⟩:=zr hzl hzw g2
 have htk:∀ n:Nat,n≤cut.toNat→List.take n z=List.take n (List.take (cut.toNat-0) (List.drop 0 z)):=fun n hn=>by
  rw[aN,List.take_take,Nat.min_eq_left (by omega)]
 have s5:Row z 0 l2 k:=zB hzl hzw (by omega) zw s1 (by omega) (by omega) (by omega) (htk _ (by omega))
 obtain⟨t,ht⟩:=zC r1 r2 s5
 have hfull:q≤cut→t=[]:=fun hq=>by
  have s6:Row (List.take (cut.toNat-0) (List.drop 0 z)) 0 l q:=zB (by omega) zw hzl hzw r1 (by omega) (by omega) (by omega) (htk _ (by omega)).symm
  obtain⟨t2,ht2⟩:=zC s1 s2 s6
  have h1:=congrArg List.length ht
  have h2:=congrArg List.length ht2
  rw[ag]at h1 h2
  exact a7.1 (by omega)
 have L1:∀ (d i:Nat),i+d=l.length→kV b z l q (dw (l.take i)) (i:Int)=some (true,()):=by
  intro d
  induction d with
  | zero =>
   intro i hd
   rw[yq,aq,al,e5,aa]
   dsimp only
   rw[w1,w2,w3,← hcut,bn (by rw[a9 (by omega),aN,Nat.sub_zero,hcat];simp),al,g2,aa]
   dsimp only
   rw[aq,bn (by rw[ab,ht,ag];omega)]
   have:=Mn l2 t q cut (by rw[← ht];exact f4) (by rw[← ht];exact f3) hfull l2.length 0 (by omega)
   rw[← ht]at this
   exact this
  | succ d ih =>
   intro i hd
   have hi:i<l.length:=by omega
   have e:dw (l.take i)++dq l[i]=dw (l.take (i+1)):=by rw[← Cq,List.take_append_getElem hi]
   have hb1:(dw (l.take (i+1))).length≤(dw l).length:=by
    have:=Cr (l.take (i+1)) (l.drop (i+1))
    rwa [List.take_append_drop]at this
   have hb2:(dw l).length≤z.length:=by rw[← hcat,aQ];omega
   rw[yq,ap,al,cV hi,jF _ (by have:=f4 _ (aW hi);omega),aa,cL hi (by omega)]
   dsimp only
   rw[bm (by rw[b6,← ag,e];omega)]
   show kV b z l q (dw (l.take i)++dq l[i]) _=_
   rw[e]
   exact ih (i+1) (by omega)
 exact L1 l.length 0 (by omega)
end Go.Proofs.YtacknlgegbagfaaGreat.E.TT
