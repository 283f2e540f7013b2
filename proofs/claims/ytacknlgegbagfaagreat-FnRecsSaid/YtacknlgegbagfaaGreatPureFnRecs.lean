/- The pure statement of FnRecs. No condition. -/
import Derived.Test.YtacknlgegbagfaaGreatM3
import Derived.Test.YtacknlgegbagfaaGreatTRe1
import Derived.Test.YtacknlgegbagfaaGreatTRe2
import Derived.Test.YtacknlgegbagfaaGreatTRe3
import Derived.Test.YtacknlgegbagfaaGreatQFnRecs
namespace Go.Proofs.YtacknlgegbagfaaGreat.E.TR
open Go.Proofs.YtacknlgegbagfaaGreat.E
set_option linter.unusedVariables false
theorem DK{v k:Int}(hv:0≤v∧v≤255)(hk:0≤k∧k<8):(0≤bits .xor .u8 v (cW .u8 1 k)∧bits .xor .u8 v (cW .u8 1 k)≤255)∧bits .xor .u8 v (cW .u8 1 k)≠v:=by
 have key:∀ (v:Fin 256) (k:Fin 8),(0≤bits .xor .u8 (v.val:Int) (cW .u8 1 (k.val:Int))∧bits .xor .u8 (v.val:Int) (cW .u8 1 (k.val:Int))≤255)∧bits .xor .u8 (v.val:Int) (cW .u8 1 (k.val:Int))≠(v.val:Int):=by decide +kernel
 obtain⟨a,rfl⟩:=Int.eq_ofNat_of_zero_le hv.1
 obtain⟨c,rfl⟩:=Int.eq_ofNat_of_zero_le hk.1
 exact key ⟨a,by omega⟩ ⟨c,by omega⟩
theorem zm{b:List Int}(hb:b.length≤1048576)(hw:Bytes b){p:Int}(hp:-9223372036854775808≤p∧p≤9223372036854775807)(h:sV b p):∃ r q,eK b p=some (r,q,false,()):=by
 obtain⟨r,q,ok,_,e,_⟩:=uS b hb hw p hp
 cases ok with
 | false=>exact⟨r,q,e⟩
 | true=>exact absurd e (h r q)
theorem JB{b:List Int}(hl:b.length≤1048576)(hw:Bytes b){r:bB}(h:dA r=true)(hr:Bytes (bZ r)):∀ (d i:Nat),i+d=12→j0 b (bZ r) ((bU ((b6 r).length:Int)).length:Int) (i:Int)=some (true,()):=by
 obtain⟨g1,g2,g3⟩:=lI h hr
 have hlen:=congrArg List.length g3
 have hs4:(df (b6 r)).length=4:=rfl
 rw[ag,ag,hs4]at hlen
 have hrl:=iD r
 generalize hH:(bU ((b6 r).length:Int)).length=H at hlen ⊢
 intro d
 induction d with
 | zero =>
  intro i hd
  rw[yQ,aq]
 | succ d ih =>
  intro i hd
  obtain⟨⟨a,u⟩,e1,a1,a2⟩:=qa hl hw (i:Int) (by omega) (by omega)
  obtain⟨⟨a',u'⟩,e2,b1,b2⟩:=qa hl hw ((i:Int)+1) (by omega) (by omega)
  obtain⟨⟨a'',u''⟩,e3,c1,c2⟩:=qa hl hw ((i:Int)+2) (by omega) (by omega)
  dsimp only at a1 a2 b1 b2 c1 c2
  have w1:w64 ((i:Int)+1)=(i:Int)+1:=ar
  have w2:w64 ((i:Int)+2)=(i:Int)+2:=ar
  have m1:0≤a*((bZ r).length:Int)∧a*((bZ r).length:Int)≤255*((bZ r).length:Int):=⟨Int.mul_nonneg a1 (by omega),Int.mul_le_mul_of_nonneg_right a2 (by omega)⟩
  have m2:0≤a'*(((bZ r).length:Int)-H)∧a'*(((bZ r).length:Int)-H)≤255*(((bZ r).length:Int)-H):=⟨Int.mul_nonneg b1 (by omega),Int.mul_le_mul_of_nonneg_right b2 (by omega)⟩
  have w3:w64 (Int.tdiv (w64 (a*((bZ r).length:Int))) 256)=a*((bZ r).length:Int)/256:=by
   rw[ar (n:=a*_),ba m1.1];exact ar
  have w4:w64 ((H:Int)+w64 (Int.tdiv (w64 (a'*w64 (((bZ r).length:Int)-H))) 256))=H+a'*(((bZ r).length:Int)-H)/256:=by
   rw[ar (n:=((bZ r).length:Int)-H),ar (n:=a'*_),ba m2.1,ar (n:=a'*_/256)];exact ar
  obtain⟨cut,hcut⟩:∃ cut:Int,cut=a*((bZ r).length:Int)/256:=⟨_,rfl⟩
  obtain⟨at_,hat⟩:∃ at_:Int,at_=H+a'*(((bZ r).length:Int)-H)/256:=⟨_,rfl⟩
  have hc:0≤cut∧cut<((bZ r).length:Int):=by omega
  have ha:H≤at_∧at_<((bZ r).length:Int):=by omega
  have hk:Int.tmod a'' 8=a''%8:=Int.tmod_eq_emod_of_nonneg c1
  have hai:at_.toNat<(bZ r).length:=by omega
  have hcb:(List.take (cut.toNat-0) (List.drop 0 (bZ r))).length≤1048576:=by rw[aQ,aR];omega
  have hcw:Bytes (List.take (cut.toNat-0) (List.drop 0 (bZ r))):=fun x hx=>hr x (List.mem_of_mem_drop (List.mem_of_mem_take hx))
  have n1:sV (List.take (cut.toNat-0) (List.drop 0 (bZ r))) 0:=fun r2 q2 h2=>by
   obtain⟨s1,_,s3⟩:=qM hcb hcw (by omega) h2
   have hql:q2≤cut:=by have:=s1.2.2.1;rw[aQ,aR]at this;omega
   have h3:=s3 (bZ r) (by omega) hr (by omega) (by rw[aN,List.take_take,Nat.min_eq_left (by omega)])
   have e:some _=some _:=h3.symm.trans g1
   have e4:=aO e
   simp only[Prod.mk.injEq]at e4
   omega
  obtain⟨r2,q2,f1⟩:=zm hcb hcw (by omega) n1
  have hv:=hr _ (aW hai)
  obtain⟨x1,x2⟩:=DK hv (k:=a''%8) (by omega)
  have n2:=MQ h hr (i:=at_.toNat) (x:=bits .xor .u8 (bZ r)[at_.toNat] (cW .u8 1 (a''%8))) (by omega) hai x1 x2
  have htw:Bytes ((bZ r).set at_.toNat (bits .xor .u8 (bZ r)[at_.toNat] (cW .u8 1 (a''%8)))):=fun y hy=>by
   rcases List.mem_or_eq_of_mem_set hy with hy | rfl
   ·exact hr y hy
   ·exact x1
  obtain⟨r3,q3,f2⟩:=zm (by rw[aY];omega) htw (by omega) n2
  rw[yQ,ap,e1,aa]
  dsimp only
  rw[w3,← hcut,al,f1,aa]
  dsimp only
  rw[bn (by decide),bm (by rw[b7];omega),w1,e2,aa]
  dsimp only
  rw[w4,← hat]
  have hap:List.append [] (bZ r)=bZ r:=rfl
  rw[hap,al,w2,e3,aa]
  dsimp only
  rw[hk,al,al,dJ hai,f2,aa]
  dsimp only
  rw[bn (by decide)]
  exact ih (i+1) (by omega)
theorem Jh:Ci:=by
 intro b hb
 have hb':b.length≤9223372036854775807∧∀ x∈b,IntKind.u8.wrap x=x:=hb
 have hw:Bytes b:=fun x hx=>by have:=hb'.2 x hx;rw[← this];exact iP x
 rw[ET,CB,aa]
 by_cases h:(b.length:Int)>1048576
 ·rw[ak h]
 rw[aj h]
 have hl:b.length≤1048576:=by omega
 obtain⟨c,ec,hc⟩:=zf b hl
 obtain⟨⟨r,c2,u2⟩,e1,hr,_⟩:=JA hc
 obtain⟨⟨nm,c3,u3⟩,e2,hn,_⟩:=IR hc
 dsimp only at hr hn
 have d1:vi b=some (r,()):=by rw[Kk,ec,aa,e1];rfl
 have d2:vk b=some (r,()):=by rw[Km,ec,aa,e1];rfl
 have d3:vl b=some (nm,()):=by rw[Kn,ec,aa,e2];rfl
 obtain⟨⟨z,p,u⟩,e4,⟨z1,z2⟩,p1,p2⟩:=Jz hl
 dsimp only at z1 z2 p1 p2
 have zw:Bytes z:=z2
 have hrl:=hr.1.1
 have hbr:Bytes (bZ r):=xm hr
 have hrb:=iD r
 obtain⟨⟨a,v⟩,e5,_⟩:=qa hl hw 1 (by omega) (by omega)
 obtain⟨r4,q,ok,f1,f2,f3,f4⟩:=uS z (by omega) zw p (by omega)
 have hne:(decide (((bZ r).length:Int)>0))=dA r:=by
  cases hk:dA r with
  | true =>
   obtain⟨_,_,g3⟩:=lI hk hbr
   have:=congrArg List.length g3
   have hs4:(df (b6 r)).length=4:=rfl
   rw[ag,hs4]at this
   exact ac (by omega)
  | false =>
   have hz:bZ r=[]:=by unfold bZ;rw[hk];rfl
   rw[hz];rfl
 have tail:(if(decide (((bZ r).length:Int)=0))=true then
    some (true,())
   else
    if 0+(bZ r).length≤room then
     (il b 1).bind fun(r15:Int×Unit) =>
     if List.length (List.append [] (bZ r))+1≤room then
      (eK (List.append (List.append [] (bZ r)) [(w8 r15.1)]) 0).bind fun(r16:bB×Int×Bool×Unit) =>
      if(!r16.2.2.1)=true then
       some (false,())
      else
       if(!(decide (r16.2.1=((bZ r).length:Int))))=true then
        some (false,())
       else
        (fm (bZ r) 0).bind fun(r17:Int×Int×Bool×Unit) =>
        j0 b (bZ r) r17.2.1 0
     else none
    else none)=some (true,()):=by
  by_cases hk:dA r=true
  ·rw[hk]at hne
   have hpos:=of_decide_eq_true hne
   obtain⟨g1,g2,_⟩:=lI hk hbr
   obtain⟨_,_,s3⟩:=qM (by omega) hbr (by omega) g1
   have hap:List.append (List.append [] (bZ r)) [w8 a]=bZ r++[w8 a]:=rfl
   have g4:eK (bZ r++[w8 a]) 0=some (r,((bZ r).length:Int),true,()):=s3 _ (by rw[ag,bj];omega) (fun x hx=>by
    rcases aB.1 hx with hx | hx
    ·exact hbr x hx
    ·rw[aK.1 hx];exact iP _) (by rw[ag,bj];omega) (by rw[af,List.take_left,List.take_length])
   have g5:fm (bZ r) 0=some (((b6 r).length:Int),((bU ((b6 r).length:Int)).length:Int),true,()):=by rw[ik _ (by omega) hbr 0,g2];rfl
   have hr1:(List.append [] (bZ r)).length+1≤room:=by show(bZ r).length+1≤room;rw[b7];omega
   rw[aq,bm (by rw[b7];omega),e5,aa,bm hr1]
   dsimp only
   rw[hap,g4,aa]
   dsimp only
   rw[bn (by decide),bn (by simp),g5,aa]
   exact JB hl hw hk hbr 12 0 (by omega)
  ·have hz:bZ r=[]:=by unfold bZ;rw[bn hk]
   rw[hz,bm (by rfl)]
 rw[d1,aa]
 dsimp only
 rw[jV r (by omega),aa,d2,aa,d3,aa,AD r (by omega) (uj hr),aa]
 dsimp only
 rw[bn (by simp),yz r (by omega),aa]
 dsimp only
 rw[bn (by rw[hne];simp),aa,rA r (by omega) (uj hr),aa]
 dsimp only
 rw[bn (by simp),yB nm (by omega),aa,vz nm (by omega),aa]
 dsimp only
 rw[bn (by simp),e4,aa]
 dsimp only
 rw[f2,aa,f1,aa]
 dsimp only
 rw[bn (by simp),bn (by simp)]
 cases ok with
 | false=>rw[bn (by decide)];exact tail
 | true =>
  obtain⟨k1,k2,k3,k4⟩:=f4 rfl
  obtain⟨_,s2,_⟩:=qM (by omega) zw (by omega) (show iW z p r4 q from f2)
  rw[bm rfl,jV r4 (by omega),aa,al]
  dsimp only
  rw[s2,bn (by simp)]
  exact tail
end Go.Proofs.YtacknlgegbagfaaGreat.E.TR
