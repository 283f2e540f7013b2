/- What the pure statement needs (3). No condition. -/
import Derived.Test.YtemajhlhgphhjaaGreatDoorM2
import Derived.Test.YtemajhlhgphhjaaGreatDoorTMe1
import Derived.Test.YtemajhlhgphhjaaGreatDoorTMe2
import Derived.Test.YtemajhlhgphhjaaGreatDoorTMe3
import Derived.Test.YtemajhlhgphhjaaGreatDoorTMe4
import Derived.Test.YtemajhlhgphhjaaGreatDoorM1
import Derived.KernelRfl
namespace Go.Proofs.YtemajhlhgphhjaaGreatDoor.E.TM
open Go.Proofs.YtemajhlhgphhjaaGreatDoor.E
set_option linter.unusedVariables false
def pN(b:List Int)(p:Int):Option (Int×Int):=if(cT b p).2.2=true then some ((cT b p).1,(cT b p).2.1)else none
def pT(b:List Int)(p:Int):Option (List Int×Int):=if(en b p).2.2=true then some ((en b p).1,(en b p).2.1)else none
def pZ(b:List Int)(p:Int):Option (Int×Int):=if(dG b p).2.2=true then some ((dG b p).1,(dG b p).2.1)else none
def pV(b:List Int)(p:Int):Option (bL×Int):=(pN b p).bind fun x=>(pZ b x.2).bind fun y=>(pT b y.2).bind fun z=>some (⟨x.1,y.1,z.1⟩,z.2)
def pC(b:List Int)(p:Int):Option (bA×Int):=(pN b p).bind fun x=>(pT b x.2).bind fun y=>(pV b y.2).bind fun z=>some (⟨x.1,y.1,z.1⟩,z.2)
def pL{α:Type}(f:Int→Option (α×Int)):Nat→Int→Option (List α×Int)
 | 0,p=>some ([],p)
 | n+1,p=>(f p).bind fun x=>(pL f n x.2).bind fun y=>some (x.1::y.1,y.2)
theorem cY{b:List Int}(hw:Bytes b){p v q:Int}(h:pN b p=some (v,q)):0≤p∧p<q∧q≤(b.length:Int)∧b.take q.toNat=b.take p.toNat++cy v∧0≤v∧v≤4611686018427387903:=by
 unfold pN at h
 cases e:(cT b p).2.2 with
 | false=>rw[e]at h;cases h
 | true =>
  rw[e,bw rfl]at h
  have h':=aR h
  exact xl b hw p v q (Prod.ext (show(cT b p).1=v from congrArg Prod.fst h') (Prod.ext (show(cT b p).2.1=q from congrArg Prod.snd h') e))
theorem ml{b:List Int}(hw:Bytes b){p q:Int}{t:List Int}(h:pT b p=some (t,q)):0≤p∧p<q∧q≤(b.length:Int)∧b.take q.toNat=b.take p.toNat++dz t∧t.length≤b.length:=by
 unfold pT at h
 cases e:(en b p).2.2 with
 | false=>rw[e]at h;cases h
 | true =>
  rw[e,bw rfl]at h
  have h':=aR h
  exact YE b hw p q t (Prod.ext (show(en b p).1=t from congrArg Prod.fst h') (Prod.ext (show(en b p).2.1=q from congrArg Prod.snd h') e))
theorem xr{b:List Int}(hw:Bytes b){p v q:Int}(h:pZ b p=some (v,q)):0≤p∧p<q∧q≤(b.length:Int)∧b.take q.toNat=b.take p.toNat++eF v:=by
 unfold pZ at h
 cases e:(dG b p).2.2 with
 | false=>rw[e]at h;cases h
 | true =>
  rw[e,bw rfl]at h
  have h':=aR h
  exact PW b hw p v q (Prod.ext (show(dG b p).1=v from congrArg Prod.fst h') (Prod.ext (show(dG b p).2.1=q from congrArg Prod.snd h') e))
theorem cB{α β:Type}{x:Option α}{f:α→Option β}{y:β}(h:x.bind f=some y):∃ a,x=some a∧f a=some y:=by
 cases x with
 | none=>cases h
 | some a=>exact⟨a,rfl,h⟩
theorem YD{b:List Int}(hw:Bytes b){p q:Int}{t:List Int}(h:pT b p=some (t,q)):Bt t:=by
 obtain⟨h1,h2,h3,h4,h5⟩:=ml hw h
 intro x hx
 have:x∈b.take q.toNat:=by
  rw[h4];unfold dz
  exact aE.2 (.inr (aE.2 (.inr hx)))
 exact hw x (List.mem_of_mem_take this)
theorem dY{b:List Int}(hw:Bytes b){p q:Int}{v:bL}(h:pV b p=some (v,q)):0≤p∧p<q∧q≤(b.length:Int)∧b.take q.toNat=b.take p.toNat++dV v∧v.S.length≤b.length∧Bt v.S:=by
 unfold pV at h
 obtain⟨x,hx,h⟩:=cB h
 obtain⟨y,hy,h⟩:=cB h
 obtain⟨z,hz,h⟩:=cB h
 have h':=aR h
 have e1:=congrArg Prod.fst h'
 have e2:=congrArg Prod.snd h'
 dsimp only at e1 e2
 subst e1;subst e2
 obtain⟨a1,a2,a3,a4,_⟩:=cY hw (show pN b p=some (x.1,x.2)from hx)
 obtain⟨b1,b2,b3,b4⟩:=xr hw (show pZ b x.2=some (y.1,y.2)from hy)
 obtain⟨c1,c2,c3,c4,c5⟩:=ml hw (show pT b y.2=some (z.1,z.2)from hz)
 refine⟨a1,by omega,c3,?_,c5,YD hw (show pT b y.2=some (z.1,z.2)from hz)⟩
 rw[c4,b4,a4]
 unfold dV
 simp only[ai]
theorem eY{b:List Int}(hw:Bytes b){p q:Int}{c:bA}(h:pC b p=some (c,q)):0≤p∧p<q∧q≤(b.length:Int)∧b.take q.toNat=gk (b.take p.toNat) c∧c.Key.length≤b.length∧c.Val.S.length≤b.length∧Bt c.Val.S:=by
 unfold pC at h
 obtain⟨x,hx,h⟩:=cB h
 obtain⟨y,hy,h⟩:=cB h
 obtain⟨z,hz,h⟩:=cB h
 have h':=aR h
 have e1:=congrArg Prod.fst h'
 have e2:=congrArg Prod.snd h'
 dsimp only at e1 e2
 subst e1;subst e2
 obtain⟨a1,a2,a3,a4,_⟩:=cY hw (show pN b p=some (x.1,x.2)from hx)
 obtain⟨b1,b2,b3,b4,b5⟩:=ml hw (show pT b x.2=some (y.1,y.2)from hy)
 obtain⟨c1,c2,c3,c4,c5,c6⟩:=dY hw (show pV b y.2=some (z.1,z.2)from hz)
 refine⟨a1,by omega,c3,?_,b5,c5,c6⟩
 rw[c4,b4,a4]
 rfl
theorem fW{α:Type}{f:Int→Option (α×Int)}{len:Int}(hf:∀ p x q,f p=some (x,q)→0≤p∧p<q∧q≤len):∀ (n:Nat) (p:Int) (l:List α) (q:Int),pL f n p=some (l,q)→0≤p→p≤len→l.length=n∧p+n≤q∧q≤len:=by
 intro n
 induction n with
 | zero =>
  intro p l q h h0 h1
  have h':=aR h
  have e1:=congrArg Prod.fst h'
  have e2:=congrArg Prod.snd h'
  dsimp only at e1 e2
  subst e1;subst e2
  exact⟨rfl,by simp,h1⟩
 | succ n ih =>
  intro p l q h h0 h1
  unfold pL at h
  obtain⟨x,hx,h⟩:=cB h
  obtain⟨y,hy,h⟩:=cB h
  have h':=aR h
  have e1:=congrArg Prod.fst h'
  have e2:=congrArg Prod.snd h'
  dsimp only at e1 e2
  subst e1;subst e2
  obtain⟨a1,a2,a3⟩:=hf p x.1 x.2 hx
  obtain⟨b1,b2,b3⟩:=ih x.2 y.1 y.2 hy (by omega) a3
  exact⟨by simp[b1],by omega,b3⟩
theorem IQ{α:Type}{f:Int→Option (α×Int)}{Q:α→Prop}(hf:∀ p x q,f p=some (x,q)→Q x):∀ (n:Nat) (p:Int) (l:List α) (q:Int),pL f n p=some (l,q)→∀ x∈l,Q x:=by
 intro n
 induction n with
 | zero =>
  intro p l q h x hx
  have e1:=congrArg Prod.fst (aR h)
  dsimp only at e1
  subst e1;cases hx
 | succ n ih =>
  intro p l q h x hx
  unfold pL at h
  obtain⟨u,hu,h⟩:=cB h
  obtain⟨y,hy,h⟩:=cB h
  have e1:=congrArg Prod.fst (aR h)
  dsimp only at e1
  subst e1
  rcases aO.1 hx with hx | hx
  ·subst hx;exact hf p u.1 u.2 hu
  ·exact ih u.2 y.1 y.2 hy x hx
theorem xp{α:Type}{f:Int→Option (α×Int)}{g:List Int→α→List Int}{b:List Int}(hf:∀ p x q,f p=some (x,q)→b.take q.toNat=g (b.take p.toNat) x):∀ (n:Nat) (p:Int) (l:List α) (q:Int),pL f n p=some (l,q)→b.take q.toNat=l.foldl g (b.take p.toNat):=by
 intro n
 induction n with
 | zero =>
  intro p l q h
  have h':=aR h
  have e1:=congrArg Prod.fst h'
  have e2:=congrArg Prod.snd h'
  dsimp only at e1 e2
  subst e1;subst e2
  rfl
 | succ n ih =>
  intro p l q h
  unfold pL at h
  obtain⟨u,hu,h⟩:=cB h
  obtain⟨y,hy,h⟩:=cB h
  have h':=aR h
  have e1:=congrArg Prod.fst h'
  have e2:=congrArg Prod.snd h'
  dsimp only at e1 e2
  subst e1;subst e2
  rw[List.foldl_cons,← hf p u.1 u.2 hu]
  exact ih u.2 y.1 y.2 hy
def pM(b:List Int):Option (bC×Int) :=
 (pN b 0).bind fun n=>(pL (pV b) n.1.toNat n.2).bind fun vs=>(pN b vs.2).bind fun k=>(pL (pC b) k.1.toNat k.2).bind fun cs=>(pN b cs.2).bind fun r=>(pN b r.2).bind fun e =>
 (pL (pN b) 3 e.2).bind fun ds=>(pT b ds.2).bind fun o=>some (⟨⟨vs.1,cs.1,r.1,e.1⟩,ds.1,o.1⟩,o.2)
variable {b:List Int}
def PosI(b:List Int)(p:Int):Prop:=0≤p∧p≤(b.length:Int)
theorem PosI.range{b:List Int}{p:Int}(h:PosI b p)(hb:b.length≤1048576):-9223372036854775808≤p∧p≤9223372036854775807:=by
 have h1:=h.1
 have h2:=h.2
 omega
theorem fY(hb:b.length≤1048576)(hw:Bytes b){p v q:Int}(hp:PosI b p)(h:pN b p=some (v,q)):eT ⟨b,p,true⟩=some (v,⟨b,q,true⟩,()):=by
 unfold pN at h
 cases e:(cT b p).2.2 with
 | false=>rw[e]at h;cases h
 | true =>
  rw[e,bw rfl]at h
  have h':=aR h
  have g1:(cT b p).1=v:=congrArg Prod.fst h'
  have g2:(cT b p).2.1=q:=congrArg Prod.snd h'
  rw[zQ,qo b hb hw p (hp.range hb),aa]
  unfold tr3
  dsimp only
  rw[e,g1,g2];rfl
theorem mt(hb:b.length≤1048576)(hw:Bytes b){p:Int}(hp:PosI b p)(h:pN b p=none):eT ⟨b,p,true⟩=some (0,⟨b,p,false⟩,()):=by
 unfold pN at h
 cases e:(cT b p).2.2 with
 | true=>rw[e,bw rfl]at h;cases h
 | false =>
  rw[zQ,qo b hb hw p (hp.range hb),aa]
  unfold tr3
  dsimp only
  rw[e];rfl
theorem nQ(hb:b.length≤1048576)(hw:Bytes b){p:Int}(hp:PosI b p):eT ⟨b,p,false⟩=some (0,⟨b,p,false⟩,()):=by
 rw[zQ,qo b hb hw p (hp.range hb),aa]
 unfold tr3
 dsimp only
 cases (cT b p).2.2 <;> rfl
theorem sI(hb:b.length≤1048576)(hw:Bytes b){p q:Int}{v:List Int}(hp:PosI b p)(h:pT b p=some (v,q)):la ⟨b,p,true⟩=some (v,⟨b,q,true⟩,()):=by
 unfold pT at h
 cases e:(en b p).2.2 with
 | false=>rw[e]at h;cases h
 | true =>
  rw[e,bw rfl]at h
  have h':=aR h
  have g1:(en b p).1=v:=congrArg Prod.fst h'
  have g2:(en b p).2.1=q:=congrArg Prod.snd h'
  rw[zS,yv b hb hw p (hp.range hb),aa]
  unfold trT
  dsimp only
  rw[e,g1,g2];rfl
theorem xU(hb:b.length≤1048576)(hw:Bytes b){p:Int}(hp:PosI b p)(h:pT b p=none):la ⟨b,p,true⟩=some ([],⟨b,p,false⟩,()):=by
 unfold pT at h
 cases e:(en b p).2.2 with
 | true=>rw[e,bw rfl]at h;cases h
 | false =>
  rw[zS,yv b hb hw p (hp.range hb),aa]
  unfold trT
  dsimp only
  rw[e];rfl
theorem qi(hb:b.length≤1048576)(hw:Bytes b){p:Int}(hp:PosI b p):la ⟨b,p,false⟩=some ([],⟨b,p,false⟩,()):=by
 rw[zS,yv b hb hw p (hp.range hb),aa]
 unfold trT
 dsimp only
 cases (en b p).2.2 <;> rfl
theorem Jy(hb:b.length≤1048576)(hw:Bytes b){p v q:Int}(hp:PosI b p)(h:pZ b p=some (v,q)):qv ⟨b,p,true⟩=some (v,⟨b,q,true⟩,()):=by
 unfold pZ at h
 cases e:(dG b p).2.2 with
 | false=>rw[e]at h;cases h
 | true =>
  rw[e,bw rfl]at h
  have h':=aR h
  have g1:(dG b p).1=v:=congrArg Prod.fst h'
  have g2:(dG b p).2.1=q:=congrArg Prod.snd h'
  rw[zP,yr b hb hw p (hp.range hb),aa]
  unfold tr3
  dsimp only
  rw[e,g1,g2];rfl
theorem Vf(hb:b.length≤1048576)(hw:Bytes b){p:Int}(hp:PosI b p)(h:pZ b p=none):qv ⟨b,p,true⟩=some (0,⟨b,p,false⟩,()):=by
 unfold pZ at h
 cases e:(dG b p).2.2 with
 | true=>rw[e,bw rfl]at h;cases h
 | false =>
  rw[zP,yr b hb hw p (hp.range hb),aa]
  unfold tr3
  dsimp only
  rw[e];rfl
theorem Jx(hb:b.length≤1048576)(hw:Bytes b){p:Int}(hp:PosI b p):qv ⟨b,p,false⟩=some (0,⟨b,p,false⟩,()):=by
 rw[zP,yr b hb hw p (hp.range hb),aa]
 unfold tr3
 dsimp only
 cases (dG b p).2.2 <;> rfl
theorem kz(hb:b.length≤1048576)(hw:Bytes b){p v q m:Int}(h:pN b p=some (v,q)):fS ⟨b,p,false⟩ m=if v>m then some (0,⟨b,p,true⟩,())else some (v,⟨b,q,false⟩,()):=by
 unfold pN at h
 cases e:(cT b p).2.2 with
 | false=>rw[e]at h;cases h
 | true =>
  rw[e,bw rfl]at h
  have h':=aR h
  have g1:(cT b p).1=v:=congrArg Prod.fst h'
  have g2:(cT b p).2.1=q:=congrArg Prod.snd h'
  rw[wE,pj b hb hw p,aa]
  unfold tr3
  dsimp only
  rw[e,g1,g2,bz (by simp),bz (by simp)]
  by_cases c:v>m
  ·rw[am c,bw c]
  ·rw[al c,bz c]
theorem lQ(hb:b.length≤1048576)(hw:Bytes b){p m:Int}(h:pN b p=none):fS ⟨b,p,false⟩ m=some (0,⟨b,p,true⟩,()):=by
 unfold pN at h
 cases e:(cT b p).2.2 with
 | true=>rw[e,bw rfl]at h;cases h
 | false =>
  rw[wE,pj b hb hw p,aa]
  unfold tr3
  dsimp only
  rw[e];rfl
theorem lP(hb:b.length≤1048576)(hw:Bytes b){p m:Int}:fS ⟨b,p,true⟩ m=some (0,⟨b,p,true⟩,()):=by
 rw[wE,pj b hb hw p,aa];rfl
theorem vZ(hb:b.length≤1048576)(hw:Bytes b){p q:Int}{v:List Int}(h:pT b p=some (v,q)):kG ⟨b,p,false⟩=some (v,⟨b,q,false⟩,()):=by
 unfold pT at h
 cases e:(en b p).2.2 with
 | false=>rw[e]at h;cases h
 | true =>
  rw[e,bw rfl]at h
  have h':=aR h
  have g1:(en b p).1=v:=congrArg Prod.fst h'
  have g2:(en b p).2.1=q:=congrArg Prod.snd h'
  rw[wF,v8 b hb hw p,aa]
  unfold trT
  dsimp only
  rw[e,g1,g2];rfl
theorem vY(hb:b.length≤1048576)(hw:Bytes b){p:Int}(h:pT b p=none):kG ⟨b,p,false⟩=some ([],⟨b,p,true⟩,()):=by
 unfold pT at h
 cases e:(en b p).2.2 with
 | true=>rw[e,bw rfl]at h;cases h
 | false =>
  rw[wF,v8 b hb hw p,aa]
  unfold trT
  dsimp only
  rw[e];rfl
theorem vX(hb:b.length≤1048576)(hw:Bytes b){p:Int}:kG ⟨b,p,true⟩=some ([],⟨b,p,true⟩,()):=by
 rw[wF,v8 b hb hw p,aa];rfl
theorem Hi(hb:b.length≤1048576)(hw:Bytes b){p q:Int}{v:bL}(h:pV b p=some (v,q)):ny ⟨b,p,false⟩=some (v,⟨b,q,false⟩,()):=by
 unfold pV at h
 obtain⟨x,hx,h⟩:=cB h
 obtain⟨y,hy,h⟩:=cB h
 obtain⟨z,hz,h⟩:=cB h
 have hx':=cY hw (show pN b p=some (x.1,x.2)from hx)
 have h':=aR h
 rw[wG,kz hb hw (show pN b p=some (x.1,x.2)from hx),aq,aa]
 dsimp only
 have ey:(dG b x.2).2.2=true∧((dG b x.2).1,(dG b x.2).2.1)=y:=by
  unfold pZ at hy
  cases e:(dG b x.2).2.2 with
  | false=>rw[e]at hy;cases hy
  | true=>rw[e,bw rfl]at hy;exact⟨rfl,aR hy⟩
 rw[rH b hb hw,aa]
 unfold tr3
 dsimp only
 rw[ey.1,bz (by simp),bz (by simp),(show(dG b x.2).1=y.1 from congrArg Prod.fst ey.2),(show(dG b x.2).2.1=y.2 from congrArg Prod.snd ey.2),vZ hb hw (show pT b y.2=some (z.1,z.2)from hz),aa]
 dsimp only
 have e1:=congrArg Prod.fst h'
 have e2:=congrArg Prod.snd h'
 dsimp only at e1 e2
 rw[← e1,← e2]
theorem Hh(hb:b.length≤1048576)(hw:Bytes b){p:Int}(h:pV b p=none):∃ v a,ny ⟨b,p,false⟩=some (v,⟨b,a,true⟩,()):=by
 rw[wG]
 cases hx:pN b p with
 | none =>
  rw[lQ hb hw hx,aa]
  dsimp only
  rw[rH b hb hw,aa]
  exact⟨_,_,rfl⟩
 | some x =>
  have hx':=cY hw (show pN b p=some (x.1,x.2)from hx)
  rw[kz hb hw (show pN b p=some (x.1,x.2)from hx),aq,aa]
  dsimp only
  rw[rH b hb hw,aa]
  unfold tr3
  dsimp only
  cases e:(dG b x.2).2.2 with
  | false=>exact⟨_,_,rfl⟩
  | true =>
   rw[bz (by simp),bz (by simp)]
   cases hz:pT b (dG b x.2).2.1 with
   | none=>rw[vY hb hw hz,aa];exact⟨_,_,rfl⟩
   | some z =>
    exfalso
    unfold pV at h
    rw[hx,aa]at h
    have hy:pZ b x.2=some ((dG b x.2).1,(dG b x.2).2.1):=by unfold pZ;rw[e,bw rfl]
    rw[hy,aa,hz,aa]at h
    cases h
theorem rD(hb:b.length≤1048576)(hw:Bytes b){p:Int}:∃ v a,ny ⟨b,p,true⟩=some (v,⟨b,a,true⟩,()):=by
 rw[wG,lP hb hw,aa]
 dsimp only
 rw[rH b hb hw,aa]
 exact⟨_,_,rfl⟩
theorem sJ(hb:b.length≤1048576)(hw:Bytes b){p q:Int}{v:bL}(hp:PosI b p)(h:pV b p=some (v,q)):oo ⟨b,p,true⟩=some (v,⟨b,q,true⟩,()):=by
 unfold pV at h
 obtain⟨x,hx,h⟩:=cB h
 obtain⟨y,hy,h⟩:=cB h
 obtain⟨z,hz,h⟩:=cB h
 have a:=cY hw (show pN b p=some (x.1,x.2)from hx)
 have c:=xr hw (show pZ b x.2=some (y.1,y.2)from hy)
 have h':=aR h
 have e1:=congrArg Prod.fst h'
 have e2:=congrArg Prod.snd h'
 dsimp only at e1 e2
 rw[zR,fY hb hw hp (show pN b p=some (x.1,x.2)from hx),aa]
 dsimp only
 rw[Jy hb hw ⟨by omega,a.2.2.1⟩ (show pZ b x.2=some (y.1,y.2)from hy),aa]
 dsimp only
 rw[sI hb hw ⟨by omega,c.2.2.1⟩ (show pT b y.2=some (z.1,z.2)from hz),aa,← e1,← e2]
theorem Jv(hb:b.length≤1048576)(hw:Bytes b){p:Int}(hp:PosI b p):oo ⟨b,p,false⟩=some (⟨0,0,[]⟩,⟨b,p,false⟩,()):=by
 rw[zR,nQ hb hw hp,aa]
 dsimp only
 rw[Jx hb hw hp,aa]
 dsimp only
 rw[qi hb hw hp];rfl
theorem Jw(hb:b.length≤1048576)(hw:Bytes b){p:Int}(hp:PosI b p)(h:pV b p=none):∃ v a,oo ⟨b,p,true⟩=some (v,⟨b,a,false⟩,())∧PosI b a:=by
 rw[zR]
 cases hx:pN b p with
 | none =>
  rw[mt hb hw hp hx,aa]
  dsimp only
  rw[Jx hb hw hp,aa]
  dsimp only
  rw[qi hb hw hp];exact⟨_,_,rfl,hp⟩
 | some x =>
  have a:=cY hw (show pN b p=some (x.1,x.2)from hx)
  have px:PosI b x.2:=⟨by omega,a.2.2.1⟩
  rw[fY hb hw hp (show pN b p=some (x.1,x.2)from hx),aa]
  dsimp only
  cases hy:pZ b x.2 with
  | none =>
   rw[Vf hb hw px hy,aa]
   dsimp only
   rw[qi hb hw px];exact⟨_,_,rfl,px⟩
  | some y =>
   have c:=xr hw (show pZ b x.2=some (y.1,y.2)from hy)
   have py:PosI b y.2:=⟨by omega,c.2.2.1⟩
   rw[Jy hb hw px (show pZ b x.2=some (y.1,y.2)from hy),aa]
   dsimp only
   cases hz:pT b y.2 with
   | none=>rw[xU hb hw py hz];exact⟨_,_,rfl,py⟩
   | some z =>
    exfalso
    unfold pV at h
    rw[hx,aa,hy,aa,hz,aa]at h
    cases h
variable {b:List Int}
def sAt(b:List Int)(p:Int)(ok:Bool):bR:=⟨b,p,ok⟩
def iAt(b:List Int)(p:Int)(bad:Bool):bN:=⟨b,p,bad⟩
noncomputable def gr(c:bR)(z m:bC):Option (bC×bR×Unit):=(eT c).bind fun r=>gW r.1 0 r.2.1 z m
noncomputable def ie(c:bR)(z m:bC):Option (bC×bR×Unit) :=
 (eT c).bind fun r3=>(eT r3.2.1).bind fun r4=>fZ 0 r4.2.1 z (bC.mk (bJ.mk m.State.Vars m.State.Cells r3.1 r4.1) m.Done m.Out)
noncomputable def ig(c:bR)(m:bC):Option (bC×bR×Unit):=(la c).bind fun r1=>some ((bC.mk m.State m.Done r1.1),r1.2.1,())
def dh(m:bC)(l:List bL):bC:=⟨⟨m.State.Vars++l,m.State.Cells,m.State.Nr,m.State.Err⟩,m.Done,m.Out⟩
def ef(m:bC)(l:List bA):bC:=⟨⟨m.State.Vars,m.State.Cells++l,m.State.Nr,m.State.Err⟩,m.Done,m.Out⟩
def dZ(m:bC)(l:List Int):bC:=⟨m.State,m.Done++l,m.Out⟩
theorem FA(m:bC):dh m []=m:=by unfold dh;rw[aL]
theorem Fq(m:bC):ef m []=m:=by unfold ef;rw[aL]
theorem Fw(m:bC):dZ m []=m:=by unfold dZ;rw[aL]
theorem Fz(m:bC)(v:bL)(l:List bL):dh (dh m [v]) l=dh m (v::l):=by unfold dh;simp
theorem Fp(m:bC)(v:bA)(l:List bA):ef (ef m [v]) l=ef m (v::l):=by unfold ef;simp
theorem Ft(m:bC)(v:Int)(l:List Int):dZ (dZ m [v]) l=dZ m (v::l):=by unfold dZ;simp
theorem JM(n i:Int)(h:¬ i<n)(c:bR)(z m:bC):iz n i c z m=gr c z m:=by
 rw[tJ,al h];rfl
theorem JK(n i:Int)(p:Int)(z m:bC):iz n i (sAt b p false) z m=gr (sAt b p false) z m:=by
 by_cases h:i<n
 ·rw[tJ,am h,bz (by unfold sAt;simp)];rfl
 ·exact JM n i h _ z m
theorem JL(hb:b.length≤1048576)(hw:Bytes b)(z:bC)(n:Int)(hn:n≤4611686018427387903):∀ (j i:Nat) (p:Int) (m:bC) (l:List bL) (q:Int),pL (pV b) j p=some (l,q)→PosI b p→(i:Int)+j=n→(m.State.Vars.length:Int)≤p →
  iz n i (sAt b p true) z m=gr (sAt b q true) z (dh m l):=by
 intro j
 induction j with
 | zero =>
  intro i p m l q h hp hi hm
  have h':=aR h
  have e1:[]=l:=congrArg Prod.fst h'
  have e2:p=q:=congrArg Prod.snd h'
  rw[JM _ _ (by omega),← e1,← e2,FA]
 | succ j ih =>
  intro i p m l q h hp hi hm
  unfold pL at h
  obtain⟨x,hx,h⟩:=cB h
  obtain⟨y,hy,h⟩:=cB h
  have h':=aR h
  have e1:x.1::y.1=l:=congrArg Prod.fst h'
  have e2:y.2=q:=congrArg Prod.snd h'
  have a:=dY hw (show pV b p=some (x.1,x.2)from hx)
  have w1:w64 ((i:Int)+1)=((i+1:Nat):Int):=by rw[aw];omega
  have h2:=hp.2
  rw[tJ,au,bw (by unfold sAt;rfl)]
  unfold sAt
  rw[sJ hb hw hp (show pV b p=some (x.1,x.2)from hx),aa,bw (by rw[ce];omega),w1]
  have:=ih (i+1) x.2 (dh m [x.1]) y.1 y.2 hy ⟨by omega,a.2.2.1⟩ (by omega) (by unfold dh;dsimp only;rw[ah];simp only[aW,List.length_nil];omega)
  rw[Fz,e1,e2]at this
  exact this
theorem VH(hb:b.length≤1048576)(hw:Bytes b)(z:bC)(n:Int)(hn:n≤4611686018427387903):∀ (j i:Nat) (p:Int) (m:bC),pL (pV b) j p=none→PosI b p→(i:Int)+j=n→(m.State.Vars.length:Int)≤p →
  ∃ a m',iz n i (sAt b p true) z m=gr (sAt b a false) z m'∧PosI b a∧m'.Done=m.Done:=by
 intro j
 induction j with
 | zero=>intro i p m h;cases h
 | succ j ih =>
  intro i p m h hp hi hm
  have w1:w64 ((i:Int)+1)=((i+1:Nat):Int):=by rw[aw];omega
  have h2:=hp.2
  rw[tJ,au,bw (by unfold sAt;rfl)]
  unfold sAt
  cases hx:pV b p with
  | none =>
   obtain⟨v,a,e,ha⟩:=Jw hb hw hp hx
   rw[e,aa,bw (by rw[ce];omega)]
   exact⟨a,_,JK n _ a z _,ha,rfl⟩
  | some x =>
   have a:=dY hw (show pV b p=some (x.1,x.2)from hx)
   rw[sJ hb hw hp (show pV b p=some (x.1,x.2)from hx),aa,bw (by rw[ce];omega),w1]
   refine ih (i+1) x.2 (dh m [x.1]) ?_ ⟨by omega,a.2.2.1⟩ (by omega) (by unfold dh;dsimp only;rw[ah];simp only[aW,List.length_nil];omega)
   unfold pL at h
   rw[hx,aa]at h
   cases hy:pL (pV b) j x.2 with
   | none=>rfl
   | some y=>rw[hy,aa]at h;cases h
theorem sU(n i:Int)(h:¬ i<n)(c:bR)(z m:bC):gW n i c z m=ie c z m:=by
 rw[tK,al h];rfl
theorem yw(n i:Int)(p:Int)(z m:bC):gW n i (sAt b p false) z m=ie (sAt b p false) z m:=by
 by_cases h:i<n
 ·rw[tK,am h,bz (by unfold sAt;simp)];rfl
 ·exact sU n i h _ z m
theorem Ue{p q:Int}{c:bA}(h:pC b p=some (c,q)):∃ x y z,pN b p=some x∧pT b x.2=some y∧pV b y.2=some z∧c=⟨x.1,y.1,z.1⟩∧q=z.2:=by
 unfold pC at h
 obtain⟨x,hx,h⟩:=cB h
 obtain⟨y,hy,h⟩:=cB h
 obtain⟨z,hz,h⟩:=cB h
 have h':=aR h
 exact⟨x,y,z,hx,hy,hz,(congrArg Prod.fst h').symm,(congrArg Prod.snd h').symm⟩
theorem JO(hb:b.length≤1048576)(hw:Bytes b)(z:bC)(n:Int)(hn:n≤4611686018427387903):∀ (j i:Nat) (p:Int) (m:bC) (l:List bA) (q:Int),pL (pC b) j p=some (l,q)→PosI b p→(i:Int)+j=n→(m.State.Cells.length:Int)≤p →
  gW n i (sAt b p true) z m=ie (sAt b q true) z (ef m l):=by
 intro j
 induction j with
 | zero =>
  intro i p m l q h hp hi hm
  have h':=aR h
  have e1:[]=l:=congrArg Prod.fst h'
  have e2:p=q:=congrArg Prod.snd h'
  rw[sU _ _ (by omega),← e1,← e2,Fq]
 | succ j ih =>
  intro i p m l q h hp hi hm
  unfold pL at h
  obtain⟨x,hx,h⟩:=cB h
  obtain⟨y,hy,h⟩:=cB h
  have h':=aR h
  have e1:x.1::y.1=l:=congrArg Prod.fst h'
  have e2:y.2=q:=congrArg Prod.snd h'
  have a:=eY hw (show pC b p=some (x.1,x.2)from hx)
  obtain⟨u,v,w,hu,hv,hz,g1,g2⟩:=Ue (show pC b p=some (x.1,x.2)from hx)
  have a1:=cY hw (show pN b p=some (u.1,u.2)from hu)
  have a2:=ml hw (show pT b u.2=some (v.1,v.2)from hv)
  have w1:w64 ((i:Int)+1)=((i+1:Nat):Int):=by rw[aw];omega
  have h2:=hp.2
  rw[tK,au,bw (by unfold sAt;rfl)]
  unfold sAt
  rw[fY hb hw hp (show pN b p=some (u.1,u.2)from hu),aa]
  dsimp only
  rw[sI hb hw ⟨by omega,a1.2.2.1⟩ (show pT b u.2=some (v.1,v.2)from hv),aa]
  dsimp only
  rw[sJ hb hw ⟨by omega,a2.2.2.1⟩ (show pV b v.2=some (w.1,w.2)from hz),aa,bw (by rw[ce];omega),w1,← g1,← g2]
  have:=ih (i+1) x.2 (ef m [x.1]) y.1 y.2 hy ⟨by omega,a.2.2.1⟩ (by omega) (by unfold ef;dsimp only;rw[ah];simp only[aW,List.length_nil];omega)
  rw[Fp,e1,e2]at this
  exact this
theorem VI(hb:b.length≤1048576)(hw:Bytes b)(z:bC)(n:Int)(hn:n≤4611686018427387903):∀ (j i:Nat) (p:Int) (m:bC),pL (pC b) j p=none→PosI b p→(i:Int)+j=n→(m.State.Cells.length:Int)≤p →
  ∃ a m',gW n i (sAt b p true) z m=ie (sAt b a false) z m'∧PosI b a∧m'.Done=m.Done:=by
 intro j
 induction j with
 | zero=>intro i p m h;cases h
 | succ j ih =>
  intro i p m h hp hi hm
  have w1:w64 ((i:Int)+1)=((i+1:Nat):Int):=by rw[aw];omega
  have h2:=hp.2
  have hr:m.State.Cells.length+1≤room:=by rw[ce];omega
  rw[tK,au,bw (by unfold sAt;rfl)]
  unfold sAt
  simp only[bw hr]
  cases hu:pN b p with
  | none =>
   rw[mt hb hw hp hu,aa]
   dsimp only
   rw[qi hb hw hp,aa]
   dsimp only
   rw[Jv hb hw hp,aa]
   exact⟨p,_,yw n _ p z _,hp,rfl⟩
  | some u =>
   have a1:=cY hw (show pN b p=some (u.1,u.2)from hu)
   have pu:PosI b u.2:=⟨by omega,a1.2.2.1⟩
   rw[fY hb hw hp (show pN b p=some (u.1,u.2)from hu),aa]
   dsimp only
   cases hv:pT b u.2 with
   | none =>
    rw[xU hb hw pu hv,aa]
    dsimp only
    rw[Jv hb hw pu,aa]
    exact⟨u.2,_,yw n _ u.2 z _,pu,rfl⟩
   | some v =>
    have a2:=ml hw (show pT b u.2=some (v.1,v.2)from hv)
    have pv:PosI b v.2:=⟨by omega,a2.2.2.1⟩
    rw[sI hb hw pu (show pT b u.2=some (v.1,v.2)from hv),aa]
    dsimp only
    cases hz:pV b v.2 with
    | none =>
     obtain⟨v',a,e,ha⟩:=Jw hb hw pv hz
     rw[e,aa]
     exact⟨a,_,yw n _ a z _,ha,rfl⟩
    | some w =>
     have a3:=dY hw (show pV b v.2=some (w.1,w.2)from hz)
     rw[sJ hb hw pv (show pV b v.2=some (w.1,w.2)from hz),aa,w1]
     refine ih (i+1) w.2 (ef m [⟨u.1,v.1,w.1⟩]) ?_ ⟨by omega,a3.2.2.1⟩ (by omega) (by unfold ef;dsimp only;rw[ah];simp only[aW,List.length_nil];omega)
     have hx:pC b p=some (⟨u.1,v.1,w.1⟩,w.2):=by unfold pC;rw[hu,aa,hv,aa,hz,aa]
     unfold pL at h
     rw[hx,aa]at h
     cases hy:pL (pC b) j w.2 with
     | none=>rfl
     | some y=>rw[hy,aa]at h;cases h
theorem JP(hb:b.length≤1048576)(hw:Bytes b)(z:bC):∀ (j i:Nat) (p:Int) (m:bC) (l:List Int) (q:Int),pL (pN b) j p=some (l,q)→PosI b p→i+j=3→m.Done.length≤i →
  fZ (i:Int) (sAt b p true) z m=ig (sAt b q true) (dZ m l):=by
 intro j
 induction j with
 | zero =>
  intro i p m l q h hp hi hm
  have h':=aR h
  have e1:[]=l:=congrArg Prod.fst h'
  have e2:p=q:=congrArg Prod.snd h'
  rw[qw,av,← e1,← e2,Fw];rfl
 | succ j ih =>
  intro i p m l q h hp hi hm
  unfold pL at h
  obtain⟨x,hx,h⟩:=cB h
  obtain⟨y,hy,h⟩:=cB h
  have h':=aR h
  have e1:x.1::y.1=l:=congrArg Prod.fst h'
  have e2:y.2=q:=congrArg Prod.snd h'
  have a:=cY hw (show pN b p=some (x.1,x.2)from hx)
  have w1:w64 ((i:Int)+1)=((i+1:Nat):Int):=by rw[aw];omega
  rw[qw,au]
  unfold sAt
  rw[fY hb hw hp (show pN b p=some (x.1,x.2)from hx),aa,bw (by rw[ce];omega),w1]
  have:=ih (i+1) x.2 (dZ m [x.1]) y.1 y.2 hy ⟨by omega,a.2.2.1⟩ (by omega) (by unfold dZ;dsimp only;rw[ah];simp only[aW,List.length_nil];omega)
  rw[Ft,e1,e2]at this
  exact this
theorem yx(hb:b.length≤1048576)(hw:Bytes b)(z:bC):∀ (j i:Nat) (p:Int) (m:bC),PosI b p→i+j=3→m.Done.length≤i→∃ m',fZ (i:Int) (sAt b p false) z m=ig (sAt b p false) m':=by
 intro j
 induction j with
 | zero =>
  intro i p m hp hi hm
  rw[qw,av];exact⟨m,rfl⟩
 | succ j ih =>
  intro i p m hp hi hm
  have w1:w64 ((i:Int)+1)=((i+1:Nat):Int):=by rw[aw];omega
  rw[qw,au]
  unfold sAt
  rw[nQ hb hw hp,aa,bw (by rw[ce];omega),w1]
  exact ih (i+1) p (dZ m [0]) hp (by omega) (by unfold dZ;dsimp only;rw[ah];simp only[aW,List.length_nil];omega)
theorem VJ(hb:b.length≤1048576)(hw:Bytes b)(z:bC):∀ (j i:Nat) (p:Int) (m:bC),pL (pN b) j p=none→PosI b p→i+j=3→m.Done.length≤i→∃ a m',fZ (i:Int) (sAt b p true) z m=ig (sAt b a false) m'∧PosI b a:=by
 intro j
 induction j with
 | zero=>intro i p m h;cases h
 | succ j ih =>
  intro i p m h hp hi hm
  have w1:w64 ((i:Int)+1)=((i+1:Nat):Int):=by rw[aw];omega
  rw[qw,au]
  unfold sAt
  have hlen:∀ v:Int,(dZ m [v]).Done.length≤i+1:=fun v=>by unfold dZ;dsimp only;rw[ah];simp only[aW,List.length_nil];omega
  cases hx:pN b p with
  | none =>
   rw[mt hb hw hp hx,aa,bw (by rw[ce];omega),w1]
   obtain⟨m',e⟩:=yx hb hw z j (i+1) p (dZ m [0]) hp (by omega) (hlen 0)
   exact⟨p,m',e,hp⟩
  | some x =>
   have a:=cY hw (show pN b p=some (x.1,x.2)from hx)
   rw[fY hb hw hp (show pN b p=some (x.1,x.2)from hx),aa,bw (by rw[ce];omega),w1]
   refine ih (i+1) x.2 (dZ m [x.1]) ?_ ⟨by omega,a.2.2.1⟩ (by omega) (hlen _)
   unfold pL at h
   rw[hx,aa]at h
   cases hy:pL (pN b) j x.2 with
   | none=>rfl
   | some y=>rw[hy,aa]at h;cases h
def m0(b:List Int)(r:Option (bC×bR×Unit)):Prop:=∃ m a,r=some (m,sAt b a false,())
theorem vu(hb:b.length≤1048576)(hw:Bytes b){p:Int}(hp:PosI b p)(m:bC):m0 b (ig (sAt b p false) m):=by
 unfold ig sAt
 rw[qi hb hw hp];exact⟨_,_,rfl⟩
theorem vt(hb:b.length≤1048576)(hw:Bytes b){p:Int}(hp:PosI b p)(z m:bC)(hm:m.Done=[]):m0 b (ie (sAt b p false) z m):=by
 unfold ie sAt
 rw[nQ hb hw hp,aa]
 dsimp only
 rw[nQ hb hw hp,aa]
 dsimp only
 obtain⟨m',e⟩:=yx hb hw z 3 0 p ⟨⟨m.State.Vars,m.State.Cells,0,0⟩,m.Done,m.Out⟩ hp (by omega) (by dsimp only;rw[hm];simp)
 have e':fZ 0 ⟨b,p,false⟩ z ⟨⟨m.State.Vars,m.State.Cells,0,0⟩,m.Done,m.Out⟩=ig (sAt b p false) m':=e
 rw[e'];exact vu hb hw hp m'
theorem Gs(hb:b.length≤1048576)(hw:Bytes b){p:Int}(hp:PosI b p)(z m:bC)(hm:m.Done=[]):m0 b (gr (sAt b p false) z m):=by
 have e:gr (sAt b p false) z m=ie (sAt b p false) z m:=by
  unfold gr
  have e1:eT (sAt b p false)=some (0,sAt b p false,()):=nQ hb hw hp
  rw[e1,aa]
  exact sU 0 0 (by omega) _ z m
 rw[e];exact vt hb hw hp z m hm
theorem Ju(hb:b.length≤1048576)(hw:Bytes b){m:bC}{q:Int}(h:pM b=some (m,q)):tI ⟨b,0,true⟩=some (m,⟨b,q,true⟩,()):=by
 unfold pM at h
 obtain⟨n,hn,h⟩:=cB h
 obtain⟨vs,hvs,h⟩:=cB h
 obtain⟨k,hk,h⟩:=cB h
 obtain⟨cs,hcs,h⟩:=cB h
 obtain⟨r,hr,h⟩:=cB h
 obtain⟨e,he,h⟩:=cB h
 obtain⟨ds,hds,h⟩:=cB h
 obtain⟨o,ho,h⟩:=cB h
 have h':=aR h
 have e1:(⟨⟨vs.1,cs.1,r.1,e.1⟩,ds.1,o.1⟩:bC)=m:=congrArg Prod.fst h'
 have e2:o.2=q:=congrArg Prod.snd h'
 have p0:PosI b 0:=⟨by omega,by omega⟩
 have an:=cY hw (show pN b 0=some (n.1,n.2)from hn)
 have pn:PosI b n.2:=⟨by omega,an.2.2.1⟩
 obtain⟨v1,v2,v3⟩:=fW (len:=(b.length:Int)) (fun p x q h=>⟨(dY hw h).1,(dY hw h).2.1,(dY hw h).2.2.1⟩) _ _ _ _ (show pL (pV b) n.1.toNat n.2=some (vs.1,vs.2)from hvs) pn.1 pn.2
 have pv:PosI b vs.2:=⟨by have:=pn.1;omega,v3⟩
 have ak:=cY hw (show pN b vs.2=some (k.1,k.2)from hk)
 have pk:PosI b k.2:=⟨by omega,ak.2.2.1⟩
 obtain⟨c1,c2,c3⟩:=fW (len:=(b.length:Int)) (fun p x q h=>⟨(eY hw h).1,(eY hw h).2.1,(eY hw h).2.2.1⟩) _ _ _ _ (show pL (pC b) k.1.toNat k.2=some (cs.1,cs.2)from hcs) pk.1 pk.2
 have pc:PosI b cs.2:=⟨by have:=pk.1;omega,c3⟩
 have ar:=cY hw (show pN b cs.2=some (r.1,r.2)from hr)
 have pr:PosI b r.2:=⟨by omega,ar.2.2.1⟩
 have ae:=cY hw (show pN b r.2=some (e.1,e.2)from he)
 have pe:PosI b e.2:=⟨by omega,ae.2.2.1⟩
 obtain⟨d1,d2,d3⟩:=fW (len:=(b.length:Int)) (fun p x q h=>⟨(cY hw h).1,(cY hw h).2.1,(cY hw h).2.2.1⟩) _ _ _ _ (show pL (pN b) 3 e.2=some (ds.1,ds.2)from hds) pe.1 pe.2
 have pd:PosI b ds.2:=⟨by have:=pe.1;omega,d3⟩
 rw[Kr,fY hb hw p0 (show pN b 0=some (n.1,n.2)from hn),aa]
 dsimp only
 have f1:=JL hb hw cP n.1 an.2.2.2.2.2 n.1.toNat 0 n.2 ⟨cF,[],[]⟩ vs.1 vs.2 hvs pn (by omega) (by have:=pn.1;exact this)
 have f1':iz n.1 0 ⟨b,n.2,true⟩ cP ⟨cF,[],[]⟩=_:=f1
 rw[f1']
 unfold gr sAt
 rw[fY hb hw pv (show pN b vs.2=some (k.1,k.2)from hk),aa]
 dsimp only
 have f2:=JO hb hw cP k.1 ak.2.2.2.2.2 k.1.toNat 0 k.2 (dh ⟨cF,[],[]⟩ vs.1) cs.1 cs.2 hcs pk (by omega) (by have:=pk.1;exact this)
 have f2':gW k.1 0 ⟨b,k.2,true⟩ cP (dh ⟨cF,[],[]⟩ vs.1)=_:=f2
 rw[f2']
 unfold ie sAt
 rw[fY hb hw pc (show pN b cs.2=some (r.1,r.2)from hr),aa]
 dsimp only
 rw[fY hb hw pr (show pN b r.2=some (e.1,e.2)from he),aa]
 dsimp only
 have f3:=JP hb hw cP 3 0 e.2 ⟨⟨vs.1,cs.1,r.1,e.1⟩,[],[]⟩ ds.1 ds.2 hds pe (by omega) (by simp)
 have f3':fZ 0 ⟨b,e.2,true⟩ cP ⟨⟨vs.1,cs.1,r.1,e.1⟩,[],[]⟩=_:=f3
 refine Eq.trans f3' ?_
 unfold ig sAt
 rw[sI hb hw pd (show pT b ds.2=some (o.1,o.2)from ho),aa,← e1,← e2]
 rfl
theorem Jt(hb:b.length≤1048576)(hw:Bytes b)(h:pM b=none):m0 b (tI ⟨b,0,true⟩):=by
 unfold pM at h
 have p0:PosI b 0:=⟨by omega,by omega⟩
 rw[Kr]
 cases hn:pN b 0 with
 | none =>
  rw[mt hb hw p0 hn,aa]
  dsimp only
  have e:iz 0 0 ⟨b,0,false⟩ cP ⟨cF,[],[]⟩=gr (sAt b 0 false) cP ⟨cF,[],[]⟩:=JK 0 0 0 _ _
  rw[e];exact Gs hb hw p0 _ _ rfl
 | some n =>
  rw[hn,aa]at h
  have an:=cY hw (show pN b 0=some (n.1,n.2)from hn)
  have pn:PosI b n.2:=⟨by omega,an.2.2.1⟩
  rw[fY hb hw p0 (show pN b 0=some (n.1,n.2)from hn),aa]
  dsimp only
  cases hvs:pL (pV b) n.1.toNat n.2 with
  | none =>
   obtain⟨a,m',e,ha,hd⟩:=VH hb hw cP n.1 an.2.2.2.2.2 n.1.toNat 0 n.2 ⟨cF,[],[]⟩ hvs pn (by omega) (by have:=pn.1;exact this)
   have e':iz n.1 0 ⟨b,n.2,true⟩ cP ⟨cF,[],[]⟩=gr (sAt b a false) cP m':=e
   rw[e'];exact Gs hb hw ha _ _ hd
  | some vs =>
   rw[hvs,aa]at h
   obtain⟨v1,v2,v3⟩:=fW (len:=(b.length:Int)) (fun p x q h=>⟨(dY hw h).1,(dY hw h).2.1,(dY hw h).2.2.1⟩) _ _ _ _ (show pL (pV b) n.1.toNat n.2=some (vs.1,vs.2)from hvs) pn.1 pn.2
   have pv:PosI b vs.2:=⟨by have:=pn.1;omega,v3⟩
   have f1:=JL hb hw cP n.1 an.2.2.2.2.2 n.1.toNat 0 n.2 ⟨cF,[],[]⟩ vs.1 vs.2 hvs pn (by omega) (by have:=pn.1;exact this)
   have f1':iz n.1 0 ⟨b,n.2,true⟩ cP ⟨cF,[],[]⟩=_:=f1
   rw[f1']
   cases hk:pN b vs.2 with
   | none =>
    have e:gr (sAt b vs.2 true) cP (dh ⟨cF,[],[]⟩ vs.1)=ie (sAt b vs.2 false) cP (dh ⟨cF,[],[]⟩ vs.1):=by
     unfold gr
     have e1:eT (sAt b vs.2 true)=some (0,sAt b vs.2 false,()):=mt hb hw pv hk
     rw[e1,aa]
     exact sU 0 0 (by omega) _ _ _
    rw[e];exact vt hb hw pv _ _ rfl
   | some k =>
    rw[hk,aa]at h
    have ak:=cY hw (show pN b vs.2=some (k.1,k.2)from hk)
    have pk:PosI b k.2:=⟨by omega,ak.2.2.1⟩
    unfold gr sAt
    rw[fY hb hw pv (show pN b vs.2=some (k.1,k.2)from hk),aa]
    dsimp only
    cases hcs:pL (pC b) k.1.toNat k.2 with
    | none =>
     obtain⟨a,m',e,ha,hd⟩:=VI hb hw cP k.1 ak.2.2.2.2.2 k.1.toNat 0 k.2 (dh ⟨cF,[],[]⟩ vs.1) hcs pk (by omega) (by have:=pk.1;exact this)
     have e':gW k.1 0 ⟨b,k.2,true⟩ cP (dh ⟨cF,[],[]⟩ vs.1)=ie (sAt b a false) cP m':=e
     rw[e'];exact vt hb hw ha _ _ hd
    | some cs =>
     rw[hcs,aa]at h
     obtain⟨c1,c2,c3⟩:=fW (len:=(b.length:Int)) (fun p x q h=>⟨(eY hw h).1,(eY hw h).2.1,(eY hw h).2.2.1⟩) _ _ _ _ (show pL (pC b) k.1.toNat k.2=some (cs.1,cs.2)from hcs) pk.1 pk.2
     have pc:PosI b cs.2:=⟨by have:=pk.1;omega,c3⟩
     have f2:=JO hb hw cP k.1 ak.2.2.2.2.2 k.1.toNat 0 k.2 (dh ⟨cF,[],[]⟩ vs.1) cs.1 cs.2 hcs pk (by omega) (by have:=pk.1;exact this)
     have f2':gW k.1 0 ⟨b,k.2,true⟩ cP (dh ⟨cF,[],[]⟩ vs.1)=_:=f2
     rw[f2']
     have l3:∀ (a:Int) (m:bC),PosI b a→m.Done=[]→m0 b (fZ 0 ⟨b,a,false⟩ cP m):=fun a m ha hm=>by
      obtain⟨m',e⟩:=yx hb hw cP 3 0 a m ha (by omega) (by rw[hm];simp)
      have e':fZ 0 ⟨b,a,false⟩ cP m=ig (sAt b a false) m':=e
      rw[e'];exact vu hb hw ha m'
     unfold ie sAt
     cases hr:pN b cs.2 with
     | none =>
      rw[mt hb hw pc hr,aa]
      dsimp only
      rw[nQ hb hw pc,aa]
      exact l3 _ _ pc rfl
     | some r =>
      rw[hr,aa]at h
      have ar:=cY hw (show pN b cs.2=some (r.1,r.2)from hr)
      have pr:PosI b r.2:=⟨by omega,ar.2.2.1⟩
      rw[fY hb hw pc (show pN b cs.2=some (r.1,r.2)from hr),aa]
      dsimp only
      cases he:pN b r.2 with
      | none =>
       rw[mt hb hw pr he,aa]
       exact l3 _ _ pr rfl
      | some e =>
       rw[he,aa]at h
       have ae:=cY hw (show pN b r.2=some (e.1,e.2)from he)
       have pe:PosI b e.2:=⟨by omega,ae.2.2.1⟩
       rw[fY hb hw pr (show pN b r.2=some (e.1,e.2)from he),aa]
       dsimp only
       cases hds:pL (pN b) 3 e.2 with
       | none =>
        obtain⟨a,m',g,ha⟩:=VJ hb hw cP 3 0 e.2 ⟨⟨vs.1,cs.1,r.1,e.1⟩,[],[]⟩ hds pe (by omega) (by simp)
        have g':fZ 0 ⟨b,e.2,true⟩ cP ⟨⟨vs.1,cs.1,r.1,e.1⟩,[],[]⟩=ig (sAt b a false) m':=g
        have g2:=vu hb hw ha m'
        rw[← g']at g2;exact g2
       | some ds =>
        rw[hds,aa]at h
        obtain⟨d1,d2,d3⟩:=fW (len:=(b.length:Int)) (fun p x q h=>⟨(cY hw h).1,(cY hw h).2.1,(cY hw h).2.2.1⟩) _ _ _ _ (show pL (pN b) 3 e.2=some (ds.1,ds.2)from hds) pe.1 pe.2
        have pd:PosI b ds.2:=⟨by have:=pe.1;omega,d3⟩
        have f3:=JP hb hw cP 3 0 e.2 ⟨⟨vs.1,cs.1,r.1,e.1⟩,[],[]⟩ ds.1 ds.2 hds pe (by omega) (by simp)
        have f3':fZ 0 ⟨b,e.2,true⟩ cP ⟨⟨vs.1,cs.1,r.1,e.1⟩,[],[]⟩=_:=f3
        have g2:m0 b (ig (sAt b ds.2 true) (dZ ⟨⟨vs.1,cs.1,r.1,e.1⟩,[],[]⟩ ds.1)):=by
         cases ho:pT b ds.2 with
         | none=>unfold ig sAt;rw[xU hb hw pd ho];exact⟨_,_,rfl⟩
         | some o=>rw[ho,aa]at h;cases h
        rw[← f3']at g2;exact g2
variable {b:List Int}
noncomputable def oZ(b:List Int)(c:bN)(P:bG)(z m:bC):Option (bC×Bool×Unit):=(fS c 40).bind fun r1=>kB b r1.1 0 P z m r1.2.1
noncomputable def o0(b:List Int)(c:bN)(P:bG)(z m:bC):Option (bC×Bool×Unit) :=
 (fS c 4611686018427387903).bind fun r3=>(fS r3.2.1 4611686018427387903).bind fun r4=>lU b 0 P z (bC.mk (bJ.mk m.State.Vars m.State.Cells r3.1 r4.1) m.Done m.Out) r4.2.1
noncomputable def o3(b:List Int)(c:bN)(P:bG)(z m:bC):Option (bC×Bool×Unit) :=
 (kG c).bind fun(r1:(List Int)×bN×Unit) =>
  if r1.2.1.bad=true then
   some ((bC.mk cF [] []),false,())
  else
   if(!(decide (r1.2.1.at_=(List.length b:Int))))=true then
    some ((bC.mk cF [] []),false,())
   else
    (lV P (bC.mk m.State m.Done r1.1)).bind fun(r2:Bool×Unit) =>
    if(!r2.1)=true then
     some ((bC.mk cF [] []),false,())
    else
     some ((bC.mk m.State m.Done r1.1),true,())
theorem Hn(n i:Int)(h:¬ i<n)(c:bN)(P:bG)(z m:bC):lT b n i P z m c=oZ b c P z m:=by
 rw[wd,al h];rfl
theorem wc(n i:Int)(h:¬ i<n)(c:bN)(P:bG)(z m:bC):kB b n i P z m c=o0 b c P z m:=by
 rw[we,al h];rfl
theorem Hp(i:Int)(h:¬ i<3)(c:bN)(P:bG)(z m:bC):lU b i P z m c=o3 b c P z m:=by
 rw[wg,al h];rfl
def fD:bC:=⟨cF,[],[]⟩
theorem Nw(hb:b.length≤1048576)(hw:Bytes b)(p:Int)(P:bG)(z m:bC):o3 b (iAt b p true) P z m=some (fD,false,()):=by
 unfold o3 iAt
 rw[vX hb hw];rfl
theorem rJ(hb:b.length≤1048576)(hw:Bytes b)(P:bG)(z:bC):∀ (j i:Nat) (p:Int) (m:bC),i+j=3→m.Done.length≤i→lU b (i:Int) P z m (iAt b p true)=some (fD,false,()):=by
 intro j
 induction j with
 | zero=>intro i p m hi hm;rw[Hp _ (by omega)];exact Nw hb hw p P z m
 | succ j ih =>
  intro i p m hi hm
  have w1:w64 ((i:Int)+1)=((i+1:Nat):Int):=by rw[aw];omega
  rw[wg,au]
  unfold iAt
  rw[lP hb hw,aa,bw (by rw[ce];omega),w1]
  exact ih (i+1) p (dZ m [0]) (by omega) (by unfold dZ;dsimp only;rw[ah];simp only[aW,List.length_nil];omega)
theorem Gr(hb:b.length≤1048576)(hw:Bytes b)(p:Int)(P:bG)(z m:bC)(hm:m.Done=[]):o0 b (iAt b p true) P z m=some (fD,false,()):=by
 unfold o0 iAt
 rw[lP hb hw,aa]
 dsimp only
 rw[lP hb hw,aa]
 exact rJ hb hw P z 3 0 p _ (by omega) (by dsimp only;rw[hm];simp)
theorem pl(hb:b.length≤1048576)(hw:Bytes b)(P:bG)(z:bC)(n:Int)(hn:n≤40):∀ (j i:Nat) (p:Int) (m:bC),(i:Int)+j=n→m.State.Cells.length≤i→m.Done=[]→kB b n (i:Int) P z m (iAt b p true)=some (fD,false,()):=by
 intro j
 induction j with
 | zero=>intro i p m hi hm hd;rw[wc _ _ (by omega)];exact Gr hb hw p P z m hd
 | succ j ih =>
  intro i p m hi hm hd
  have w1:w64 ((i:Int)+1)=((i+1:Nat):Int):=by rw[aw];omega
  rw[we,au]
  unfold iAt
  rw[lP hb hw,aa]
  dsimp only
  rw[vX hb hw,aa]
  dsimp only
  obtain⟨v,a,e⟩:=rD hb hw (b:=b) (p:=p)
  rw[e,aa,bw (by rw[ce];omega),w1]
  exact ih (i+1) a (ef m [⟨0,[],v⟩]) (by omega) (by unfold ef;dsimp only;rw[ah];simp only[aW,List.length_nil];omega) hd
theorem Nv(hb:b.length≤1048576)(hw:Bytes b)(p:Int)(P:bG)(z m:bC)(hm:m.Done=[]):oZ b (iAt b p true) P z m=some (fD,false,()):=by
 unfold oZ iAt
 rw[lP hb hw,aa]
 dsimp only
 rw[wc 0 0 (by omega)]
 exact Gr hb hw p P z m hm
theorem wa(hb:b.length≤1048576)(hw:Bytes b)(P:bG)(z:bC)(n:Int)(hn:n≤40):∀ (j i:Nat) (p:Int) (m:bC),(i:Int)+j=n→m.State.Vars.length≤i→m.Done=[]→lT b n (i:Int) P z m (iAt b p true)=some (fD,false,()):=by
 intro j
 induction j with
 | zero=>intro i p m hi hm hd;rw[Hn _ _ (by omega)];exact Nv hb hw p P z m hd
 | succ j ih =>
  intro i p m hi hm hd
  have w1:w64 ((i:Int)+1)=((i+1:Nat):Int):=by rw[aw];omega
  rw[wd,au]
  unfold iAt
  obtain⟨v,a,e⟩:=rD hb hw (b:=b) (p:=p)
  rw[e,aa,bw (by rw[ce];omega),w1]
  exact ih (i+1) a (dh m [v]) (by omega) (by unfold dh;dsimp only;rw[ah];simp only[aW,List.length_nil];omega) hd
theorem OR(hb:b.length≤1048576)(hw:Bytes b)(P:bG)(z:bC)(n:Int)(hn:n≤40):∀ (j i:Nat) (p:Int) (m:bC),(i:Int)+j=n→m.State.Vars.length≤i→m.Done=[] →
  lT b n (i:Int) P z m (iAt b p false)=match pL (pV b) j p with
   | some (l,q)=>oZ b (iAt b q false) P z (dh m l)
   | none=>some (fD,false,()):=by
 intro j
 induction j with
 | zero =>
  intro i p m hi hm hd
  rw[Hn _ _ (by omega)]
  unfold pL
  dsimp only
  rw[FA]
 | succ j ih =>
  intro i p m hi hm hd
  have w1:w64 ((i:Int)+1)=((i+1:Nat):Int):=by rw[aw];omega
  have hlen:∀ v:bL,(dh m [v]).State.Vars.length≤i+1:=fun v=>by unfold dh;dsimp only;rw[ah];simp only[aW,List.length_nil];omega
  rw[wd,au]
  unfold iAt pL
  cases hx:pV b p with
  | none =>
   obtain⟨v,a,e⟩:=Hh hb hw hx
   rw[e,aa,bw (by rw[ce];omega),w1]
   exact wa hb hw P z n hn j (i+1) a (dh m [v]) (by omega) (hlen v) hd
  | some x =>
   rw[Hi hb hw (show pV b p=some (x.1,x.2)from hx),aa,bw (by rw[ce];omega),w1,aa]
   refine(ih (i+1) x.2 (dh m [x.1]) (by omega) (hlen _) hd).trans ?_
   cases pL (pV b) j x.2 with
   | none=>rfl
   | some y=>rw[aa];dsimp only;rw[Fz];rfl
theorem OS(hb:b.length≤1048576)(hw:Bytes b)(P:bG)(z:bC)(n:Int)(hn:n≤40):∀ (j i:Nat) (p:Int) (m:bC),(i:Int)+j=n→m.State.Cells.length≤i→m.Done=[] →
  kB b n (i:Int) P z m (iAt b p false)=match pL (pC b) j p with
   | some (l,q)=>o0 b (iAt b q false) P z (ef m l)
   | none=>some (fD,false,()):=by
 intro j
 induction j with
 | zero =>
  intro i p m hi hm hd
  rw[wc _ _ (by omega)]
  unfold pL
  dsimp only
  rw[Fq]
 | succ j ih =>
  intro i p m hi hm hd
  have w1:w64 ((i:Int)+1)=((i+1:Nat):Int):=by rw[aw];omega
  have hlen:∀ v:bA,(ef m [v]).State.Cells.length≤i+1:=fun v=>by unfold ef;dsimp only;rw[ah];simp only[aW,List.length_nil];omega
  have hr:m.State.Cells.length+1≤room:=by rw[ce];omega
  have hpC:pC b p=(pN b p).bind fun x=>(pT b x.2).bind fun y=>(pV b y.2).bind fun z=>some (⟨x.1,y.1,z.1⟩,z.2):=rfl
  rw[we,au]
  unfold iAt pL
  simp only[bw hr]
  rw[hpC]
  cases hu:pN b p with
  | none =>
   rw[lQ hb hw hu,aa]
   dsimp only
   rw[vX hb hw,aa]
   dsimp only
   obtain⟨v,a,e⟩:=rD hb hw (b:=b) (p:=p)
   rw[e,aa,w1]
   exact pl hb hw P z n hn j (i+1) a (ef m [⟨0,[],v⟩]) (by omega) (hlen _) hd
  | some u =>
   have a1:=cY hw (show pN b p=some (u.1,u.2)from hu)
   rw[kz hb hw (show pN b p=some (u.1,u.2)from hu),aq,aa,aa]
   dsimp only
   cases hv:pT b u.2 with
   | none =>
    rw[vY hb hw hv,aa]
    dsimp only
    obtain⟨v,a,e⟩:=rD hb hw (b:=b) (p:=u.2)
    rw[e,aa,w1]
    exact pl hb hw P z n hn j (i+1) a (ef m [⟨u.1,[],v⟩]) (by omega) (hlen _) hd
   | some v =>
    rw[vZ hb hw (show pT b u.2=some (v.1,v.2)from hv),aa,aa]
    dsimp only
    cases hz:pV b v.2 with
    | none =>
     obtain⟨v',a,e⟩:=Hh hb hw hz
     rw[e,aa,w1]
     exact pl hb hw P z n hn j (i+1) a (ef m [⟨u.1,v.1,v'⟩]) (by omega) (hlen _) hd
    | some w =>
     rw[Hi hb hw (show pV b v.2=some (w.1,w.2)from hz),aa,w1,aa,aa]
     refine(ih (i+1) w.2 (ef m [⟨u.1,v.1,w.1⟩]) (by omega) (hlen _) hd).trans ?_
     dsimp only
     cases pL (pC b) j w.2 with
     | none=>rfl
     | some y=>rw[aa];dsimp only;rw[Fp];rfl
theorem OT(hb:b.length≤1048576)(hw:Bytes b)(P:bG)(z:bC):∀ (j i:Nat) (p:Int) (m:bC),i+j=3→m.Done.length≤i →
  lU b (i:Int) P z m (iAt b p false)=match pL (pN b) j p with
   | some (l,q)=>o3 b (iAt b q false) P z (dZ m l)
   | none=>some (fD,false,()):=by
 intro j
 induction j with
 | zero =>
  intro i p m hi hm
  rw[Hp _ (by omega)]
  unfold pL
  dsimp only
  rw[Fw]
 | succ j ih =>
  intro i p m hi hm
  have w1:w64 ((i:Int)+1)=((i+1:Nat):Int):=by rw[aw];omega
  have hlen:∀ v:Int,(dZ m [v]).Done.length≤i+1:=fun v=>by unfold dZ;dsimp only;rw[ah];simp only[aW,List.length_nil];omega
  rw[wg,au]
  unfold iAt pL
  cases hx:pN b p with
  | none =>
   rw[lQ hb hw hx,aa,bw (by rw[ce];omega),w1]
   exact rJ hb hw P z j (i+1) p (dZ m [0]) (by omega) (hlen _)
  | some x =>
   have a1:=cY hw (show pN b p=some (x.1,x.2)from hx)
   rw[kz hb hw (show pN b p=some (x.1,x.2)from hx),aq,aa,bw (by rw[ce];omega),w1,aa]
   refine(ih (i+1) x.2 (dZ m [x.1]) (by omega) (hlen _)).trans ?_
   cases pL (pN b) j x.2 with
   | none=>rfl
   | some y=>rw[aa];dsimp only;rw[Ft];rfl
noncomputable def iP(b:List Int)(P:bG)(x:Option (bC×Int)):Option (bC×Bool×Unit):=match x with
 | none=>some (fD,false,())
 | some (m,q)=>if(!(decide (q=(List.length b:Int))))=true then some (fD,false,()) else(lV P m).bind fun(r2:Bool×Unit)=>if(!r2.1)=true then some (fD,false,())else some (m,true,())
theorem Hu(hb:b.length≤1048576)(hw:Bytes b)(P:bG):kA P b=some (fD,false,())∧(∀ m q,pM b=some (m,q)→8<m.State.Vars.length∨40<m.State.Cells.length)∨kA P b=iP b P (pM b):=by
 rw[OV]
 unfold pM
 cases hn:pN b 0 with
 | none=>right;rw[lQ hb hw hn,aa];exact wa hb hw P cP 0 (by omega) 0 0 0 _ (by omega) (by simp[cF]) rfl
 | some n =>
  have an:=cY hw (show pN b 0=some (n.1,n.2)from hn)
  rw[kz hb hw (show pN b 0=some (n.1,n.2)from hn),aa]
  have pn:PosI b n.2:=⟨by omega,an.2.2.1⟩
  by_cases c8:n.1>8
  ·left
   rw[bw c8,aa]
   refine⟨wa hb hw P cP 0 (by omega) 0 0 0 _ (by omega) (by simp[cF]) rfl,fun m q h=>.inl ?_⟩
   obtain⟨vs,hvs,h⟩:=cB h
   obtain⟨k,hk,h⟩:=cB h
   obtain⟨cs,hcs,h⟩:=cB h
   obtain⟨r,hr,h⟩:=cB h
   obtain⟨e,he,h⟩:=cB h
   obtain⟨ds,hds,h⟩:=cB h
   obtain⟨o,ho,h⟩:=cB h
   have e1:(⟨⟨vs.1,cs.1,r.1,e.1⟩,ds.1,o.1⟩:bC)=m:=congrArg Prod.fst (aR h)
   obtain⟨v1,_⟩:=fW (len:=(b.length:Int)) (fun p x q h=>⟨(dY hw h).1,(dY hw h).2.1,(dY hw h).2.2.1⟩) _ _ _ _ (show pL (pV b) n.1.toNat n.2=some (vs.1,vs.2)from hvs) pn.1 pn.2
   rw[← e1];dsimp only;omega
  ·rw[bz c8,aa]
   have f1:=OR hb hw P cP n.1 (by omega) n.1.toNat 0 n.2 ⟨cF,[],[]⟩ (by omega) (by simp[cF]) rfl
   have f1':lT b n.1 0 P cP ⟨cF,[],[]⟩ ⟨b,n.2,false⟩=_:=f1
   dsimp only
   rw[f1']
   cases hvs:pL (pV b) n.1.toNat n.2 with
   | none=>right;rfl
   | some vs =>
    obtain⟨v1,v2,v3⟩:=fW (len:=(b.length:Int)) (fun p x q h=>⟨(dY hw h).1,(dY hw h).2.1,(dY hw h).2.2.1⟩) _ _ _ _ (show pL (pV b) n.1.toNat n.2=some (vs.1,vs.2)from hvs) pn.1 pn.2
    have pv:PosI b vs.2:=⟨by have:=pn.1;omega,v3⟩
    rw[aa]
    dsimp only
    unfold oZ iAt
    cases hk:pN b vs.2 with
    | none =>
     right
     rw[lQ hb hw hk,aa]
     exact pl hb hw P cP 0 (by omega) 0 0 vs.2 (dh ⟨cF,[],[]⟩ vs.1) (by omega) (by simp[dh,cF]) rfl
    | some k =>
     have ak:=cY hw (show pN b vs.2=some (k.1,k.2)from hk)
     have pk:PosI b k.2:=⟨by omega,ak.2.2.1⟩
     rw[kz hb hw (show pN b vs.2=some (k.1,k.2)from hk)]
     by_cases c40:k.1>40
     ·left
      rw[bw c40,aa]
      refine⟨pl hb hw P cP 0 (by omega) 0 0 vs.2 (dh ⟨cF,[],[]⟩ vs.1) (by omega) (by simp[dh,cF]) rfl,fun m q h=>.inr ?_⟩
      rw[aa]at h
      obtain⟨cs,hcs,h⟩:=cB h
      obtain⟨r,hr,h⟩:=cB h
      obtain⟨e,he,h⟩:=cB h
      obtain⟨ds,hds,h⟩:=cB h
      obtain⟨o,ho,h⟩:=cB h
      have e1:(⟨⟨vs.1,cs.1,r.1,e.1⟩,ds.1,o.1⟩:bC)=m:=congrArg Prod.fst (aR h)
      obtain⟨c1,_⟩:=fW (len:=(b.length:Int)) (fun p x q h=>⟨(eY hw h).1,(eY hw h).2.1,(eY hw h).2.2.1⟩) _ _ _ _ (show pL (pC b) k.1.toNat k.2=some (cs.1,cs.2)from hcs) pk.1 pk.2
      rw[← e1];dsimp only;omega
     ·right
      rw[bz c40,aa,aa]
      have f2:=OS hb hw P cP k.1 (by omega) k.1.toNat 0 k.2 (dh ⟨cF,[],[]⟩ vs.1) (by omega) (by simp[dh,cF]) rfl
      have f2':kB b k.1 0 P cP (dh ⟨cF,[],[]⟩ vs.1) ⟨b,k.2,false⟩=_:=f2
      dsimp only
      rw[f2']
      cases hcs:pL (pC b) k.1.toNat k.2 with
      | none=>rfl
      | some cs =>
       rw[aa]
       dsimp only
       unfold o0 iAt
       cases hr:pN b cs.2 with
       | none =>
        rw[lQ hb hw hr,aa]
        dsimp only
        rw[lP hb hw,aa]
        exact rJ hb hw P cP 3 0 cs.2 _ (by omega) (by simp[ef,dh])
       | some r =>
        have ar:=cY hw (show pN b cs.2=some (r.1,r.2)from hr)
        rw[kz hb hw (show pN b cs.2=some (r.1,r.2)from hr),aq,aa,aa]
        dsimp only
        cases he:pN b r.2 with
        | none =>
         rw[lQ hb hw he,aa]
         exact rJ hb hw P cP 3 0 r.2 _ (by omega) (by simp[ef,dh])
        | some e =>
         have ae:=cY hw (show pN b r.2=some (e.1,e.2)from he)
         rw[kz hb hw (show pN b r.2=some (e.1,e.2)from he),aq,aa,aa]
         have f3:=OT hb hw P cP 3 0 e.2 ⟨⟨vs.1,cs.1,r.1,e.1⟩,[],[]⟩ (by omega) (by simp)
         refine Eq.trans f3 ?_
         cases hds:pL (pN b) 3 e.2 with
         | none=>rfl
         | some ds =>
          rw[aa]
          dsimp only
          unfold o3 iAt
          cases ho:pT b ds.2 with
          | none=>rw[vY hb hw ho];rfl
          | some o=>rw[vZ hb hw (show pT b ds.2=some (o.1,o.2)from ho),aa];rfl
theorem pX(hb:b.length≤1048576)(hw:Bytes b){m:bC}{q:Int}(h:pM b=some (m,q)):ly m:=by
 unfold pM at h
 obtain⟨n,hn,h⟩:=cB h
 obtain⟨vs,hvs,h⟩:=cB h
 obtain⟨k,hk,h⟩:=cB h
 obtain⟨cs,hcs,h⟩:=cB h
 obtain⟨r,hr,h⟩:=cB h
 obtain⟨e,he,h⟩:=cB h
 obtain⟨ds,hds,h⟩:=cB h
 obtain⟨o,ho,h⟩:=cB h
 have e1:(⟨⟨vs.1,cs.1,r.1,e.1⟩,ds.1,o.1⟩:bC)=m:=congrArg Prod.fst (aR h)
 have an:=cY hw (show pN b 0=some (n.1,n.2)from hn)
 have pn:PosI b n.2:=⟨by omega,an.2.2.1⟩
 obtain⟨v1,v2,v3⟩:=fW (len:=(b.length:Int)) (fun p x q h=>⟨(dY hw h).1,(dY hw h).2.1,(dY hw h).2.2.1⟩) _ _ _ _ (show pL (pV b) n.1.toNat n.2=some (vs.1,vs.2)from hvs) pn.1 pn.2
 have ak:=cY hw (show pN b vs.2=some (k.1,k.2)from hk)
 have pk:PosI b k.2:=⟨by omega,ak.2.2.1⟩
 obtain⟨c1,c2,c3⟩:=fW (len:=(b.length:Int)) (fun p x q h=>⟨(eY hw h).1,(eY hw h).2.1,(eY hw h).2.2.1⟩) _ _ _ _ (show pL (pC b) k.1.toNat k.2=some (cs.1,cs.2)from hcs) pk.1 pk.2
 have ar:=cY hw (show pN b cs.2=some (r.1,r.2)from hr)
 have ae:=cY hw (show pN b r.2=some (e.1,e.2)from he)
 have pe:PosI b e.2:=⟨by omega,ae.2.2.1⟩
 obtain⟨d1,d2,d3⟩:=fW (len:=(b.length:Int)) (fun p x q h=>⟨(cY hw h).1,(cY hw h).2.1,(cY hw h).2.2.1⟩) _ _ _ _ (show pL (pN b) 3 e.2=some (ds.1,ds.2)from hds) pe.1 pe.2
 have ao:=ml hw (show pT b ds.2=some (o.1,o.2)from ho)
 have pn1:=pn.1
 have pk1:=pk.1
 rw[← e1]
 exact⟨⟨⟨by show vs.1.length≤_;omega,IQ (Q:=fun v=>Bt v.S) (fun p x q h=>(dY hw h).2.2.2.2.2) _ _ _ _ (show pL (pV b) n.1.toNat n.2=some (vs.1,vs.2)from hvs)⟩,by show cs.1.length≤_;omega,IQ (Q:=fun c=>Bt c.Val.S) (fun p x q h=>(eY hw h).2.2.2.2.2.2) _ _ _ _ (show pL (pC b) k.1.toNat k.2=some (cs.1,cs.2)from hcs)⟩,by show ds.1.length≤_;omega,by show o.1.length≤_;omega⟩
def Fg(m:bC):Prop:=m=fD∨(lD m∧ly m)
theorem TC(hb:b.length≤1048576)(hw:Bytes b)(P:bG)(hp:gg P):∃ m ok,nT P b=some (m,ok,())∧kA P b=some (m,ok,())∧Fg m:=by
 have hs:nT P b=iP b P (pM b):=by
  rw[JS]
  cases h:pM b with
  | none =>
   obtain⟨m,a,e⟩:=Jt hb hw h
   rw[e];rfl
  | some x =>
   have hm:=pX hb hw (show pM b=some (x.1,x.2)from h)
   rw[Ju hb hw (show pM b=some (x.1,x.2)from h),aa]
   unfold iP
   dsimp only
   rw[yy P _ hp hm.1 hm.2.1,kC P _ hp hm.1 hm.2.1]
   rfl
 have hend:∀ x,(∀ m q,x=some (m,q)→ly m)→∃ m ok,iP b P x=some (m,ok,())∧Fg m:=by
  intro x hx
  cases x with
  | none=>exact⟨_,_,rfl,.inl rfl⟩
  | some x =>
   have hm:=hx x.1 x.2 rfl
   unfold iP
   dsimp only
   cases hq:decide (x.2=(b.length:Int)) with
   | false=>exact⟨_,_,rfl,.inl rfl⟩
   | true =>
    rw[bz (by simp),kC P _ hp hm.1 hm.2.1,aa]
    cases hB:eE P x.1 with
    | false=>exact⟨_,_,rfl,.inl rfl⟩
    | true=>exact⟨_,_,rfl,.inr ⟨mg hB,hm⟩⟩
 obtain⟨m,ok,e,hf⟩:=hend (pM b) (fun m q h=>pX hb hw h)
 refine⟨m,ok,by rw[hs,e],?_,hf⟩
 rcases Hu hb hw P with ⟨h1,h2⟩ | h1
 ·rw[h1]
  cases h:pM b with
  | none=>rw[h]at e;exact e
  | some x =>
   rw[h]at e
   have hm:=pX hb hw (show pM b=some (x.1,x.2)from h)
   have hf':eE P x.1=false:=by
    cases hB:eE P x.1 with
    | false=>rfl
    | true =>
     have:=mg hB
     rcases h2 x.1 x.2 h with h3 | h3
     ·have:=this.1;omega
     ·have:=this.2.2.1;omega
   unfold iP at e
   dsimp only at e
   rw[kC P _ hp hm.1 hm.2.1,hf']at e
   cases hq:decide (x.2=(b.length:Int)) with
   | false=>rw[hq]at e;exact e
   | true=>rw[hq]at e;exact e
 ·rw[h1];exact e
theorem xm{b:List Int}{p:Nat}(hp:p≤b.length){n:Int}(hn:0≤n∧n≤4611686018427387903){C:List Int}(h:b.drop p=cy n++C):cT b (p:Int)=(n,((p+(cy n).length:Nat):Int),true)∧b.drop (p+(cy n).length)=C∧p+(cy n).length≤b.length:=by
 have e:cy n=dT 8 n:=by unfold cy;rw[bw hn]
 have hl:=congrArg List.length h
 rw[aV,ah]at hl
 refine⟨?_,by rw[← List.drop_drop,h,List.drop_left],by omega⟩
 unfold cT
 rw[ap]
 have:=Ow b (p:Int) (by omega) 8 0 0 n C (by omega) (by rw[← e];simpa using h) hn.1 (by have:=hn.2;omega) (by omega) (by simp) (fun h=>by omega) (by simpa using hn.2)
 have this':em b (p:Int) 9 0 0=_:=this
 rw[this',e]
 simp only[Int.zero_add,Int.pow_zero,Int.mul_one,Prod.mk.injEq,and_true,true_and]
 omega
theorem YF{b:List Int}{p:Nat}(hp:p≤b.length){t:List Int}(ht:t.length≤1000000){C:List Int}(h:b.drop p=dz t++C):en b (p:Int)=(t,((p+(dz t).length:Nat):Int),true)∧b.drop (p+(dz t).length)=C∧p+(dz t).length≤b.length:=by
 have hl:=congrArg List.length h
 rw[aV,ah]at hl
 have h':b.drop p=cy (t.length:Int)++(t++C):=by rw[h];unfold dz;rw[ai]
 have hpl:(dz t).length=(cy (t.length:Int)).length+t.length:=by unfold dz;rw[ah]
 obtain⟨e,h2,h3⟩:=xm hp ⟨by omega,by omega⟩ h'
 refine⟨?_,by rw[← List.drop_drop,h,List.drop_left],by omega⟩
 unfold en
 rw[e]
 dsimp only
 rw[bw ⟨rfl,by omega⟩,ag,ag,h2,List.take_left,hpl]
 simp only[Prod.mk.injEq,and_true,true_and]
 omega
theorem mj{b:List Int}{p:Nat}(hp:p≤b.length){n:Int}(hn:0≤n∧n≤4611686018427387903){C:List Int}(h:b.drop p=cy n++C):pN b (p:Int)=some (n,((p+(cy n).length:Nat):Int))∧b.drop (p+(cy n).length)=C∧p+(cy n).length≤b.length:=by
 obtain⟨e,h2⟩:=xm hp hn h
 refine⟨?_,h2⟩
 unfold pN
 rw[e,bw rfl]
theorem xq{b:List Int}{p:Nat}(hp:p≤b.length){t:List Int}(ht:t.length≤1000000){C:List Int}(h:b.drop p=dz t++C):pT b (p:Int)=some (t,((p+(dz t).length:Nat):Int))∧b.drop (p+(dz t).length)=C∧p+(dz t).length≤b.length:=by
 obtain⟨e,h2⟩:=YF hp ht h
 refine⟨?_,h2⟩
 unfold pT
 rw[e,bw rfl]
theorem Uh{b:List Int}{p:Nat}(hp:p≤b.length){n:Int}(hn:InZ n){C:List Int}(h:b.drop p=eF n++C):pZ b (p:Int)=some (n,((p+(eF n).length:Nat):Int))∧b.drop (p+(eF n).length)=C∧p+(eF n).length≤b.length:=by
 have hh:=hn
 unfold InZ at hh
 have hz:zag (zig n)=n:=by
  unfold zig
  by_cases h2:n<0
  ·rw[bw h2];unfold zag;rw[ap];omega
  ·rw[bz h2];unfold zag;rw[aq];omega
 have hb:0≤zig n∧zig n≤4611686018427387903:=by unfold zig;split <;> omega
 have e0:eF n=cy (zig n):=by unfold eF;rw[bw hn]
 rw[e0]at h ⊢
 obtain⟨e,h2⟩:=xm hp hb h
 refine⟨?_,h2⟩
 have eg:dG b (p:Int)=(n,((p+(cy (zig n)).length:Nat):Int),true):=by
  unfold dG
  rw[e]
  dsimp only
  rw[hz,bw ⟨rfl,hn⟩]
 unfold pZ
 rw[eg,bw rfl]
def oP(v:bL):Prop:=(0≤v.Kind∧v.Kind≤3)∧(-9000000000000≤v.N∧v.N≤9000000000000)∧v.S.length≤300
theorem IR{b:List Int}{p:Nat}(hp:p≤b.length){v:bL}(hv:oP v){C:List Int}(h:b.drop p=dV v++C):pV b (p:Int)=some (v,((p+(dV v).length:Nat):Int))∧b.drop (p+(dV v).length)=C∧p+(dV v).length≤b.length:=by
 obtain⟨k,n,s⟩:=hv
 have hl:(dV v).length=(cy v.Kind).length+(eF v.N).length+(dz v.S).length:=by unfold dV;rw[ah,ah]
 have h0:b.drop p=cy v.Kind++(eF v.N++(dz v.S++C)):=by rw[h];unfold dV;simp[ai]
 obtain⟨e1,r1,p1⟩:=mj hp ⟨k.1,by omega⟩ h0
 obtain⟨e2,r2,p2⟩:=Uh p1 (show InZ v.N from⟨by omega,by omega⟩) r1
 obtain⟨e3,r3,p3⟩:=xq p2 (by omega) r2
 refine⟨?_,by rw[← r3];congr 1;omega,by omega⟩
 unfold pV
 rw[e1,aa,e2,aa,e3,aa,hl]
 congr 2
 omega
def uP(c:bA):Prop:=(0≤c.Name∧c.Name≤4000000)∧c.Key.length≤300∧oP c.Val
def ib(c:bA):List Int:=(cy c.Name++dz c.Key)++dV c.Val
theorem Ud{b:List Int}{p:Nat}(hp:p≤b.length){c:bA}(hc:uP c){C:List Int}(h:b.drop p=ib c++C):pC b (p:Int)=some (c,((p+(ib c).length:Nat):Int))∧b.drop (p+(ib c).length)=C∧p+(ib c).length≤b.length:=by
 obtain⟨n,k,v⟩:=hc
 have hl:(ib c).length=(cy c.Name).length+(dz c.Key).length+(dV c.Val).length:=by unfold ib;rw[ah,ah]
 have h0:b.drop p=cy c.Name++(dz c.Key++(dV c.Val++C)):=by rw[h];unfold ib;simp[ai]
 obtain⟨e1,r1,p1⟩:=mj hp ⟨n.1,by omega⟩ h0
 obtain⟨e2,r2,p2⟩:=xq p1 (by omega) r1
 obtain⟨e3,r3,p3⟩:=IR p2 v r2
 refine⟨?_,by rw[← r3];congr 1;omega,by omega⟩
 unfold pC
 rw[e1,aa,e2,aa,e3,aa,hl]
 congr 2
 omega
def eK{α:Type}(g:α→List Int):List α→List Int
 | []=>[]
 | x::l=>g x++eK g l
theorem rA{α:Type}(f:List Int→α→List Int)(g:α→List Int)(hf:∀ a x,f a x=a++g x):∀ (l:List α) (a:List Int),l.foldl f a=a++eK g l
 | [],a=>by simp[eK]
 | x::l,a=>by rw[List.foldl_cons,rA f g hf l,hf,eK,ai]
theorem su{α:Type}{b:List Int}(f:Int→Option (α×Int))(g:α→List Int)(P:α→Prop)(hf:∀ (p:Nat) (x:α) (C:List Int),p≤b.length→P x→b.drop p=g x++C→f (p:Int)=some (x,((p+(g x).length:Nat):Int))∧b.drop (p+(g x).length)=C∧p+(g x).length≤b.length) :
  ∀ (l:List α) (p:Nat) (C:List Int),p≤b.length→(∀ x∈l,P x)→b.drop p=eK g l++C→pL f l.length (p:Int)=some (l,((p+(eK g l).length:Nat):Int))∧b.drop (p+(eK g l).length)=C∧p+(eK g l).length≤b.length
 | [],p,C,hp,_,h=>⟨by simp[pL,eK],by simpa [eK]using h,by simpa [eK]using hp⟩
 | x::l,p,C,hp,hl,h=>by
  rw[eK,ai]at h
  obtain⟨e1,r1,p1⟩:=hf p x _ hp (hl x aH) h
  obtain⟨e2,r2,p2⟩:=su f g P hf l _ C p1 (fun y hy=>hl y (aI _ hy)) r1
  rw[eK,ah,← Nat.add_assoc]
  refine⟨?_,r2,p2⟩
  rw[aW,pL,e1,aa]
  dsimp only
  rw[e2,aa]
structure McIn (m:bC):Prop where
 vars:m.State.Vars.length≤8∧∀ v∈m.State.Vars,oP v
 cells:m.State.Cells.length≤40∧∀ c∈m.State.Cells,uP c
 nr:0≤m.State.Nr∧m.State.Nr≤1000000
 err:0≤m.State.Err∧m.State.Err≤7
 done:m.Done.length=3∧∀ n∈m.Done,0≤n∧n≤100000
 out:m.Out.length≤1500
theorem Ug{m:bC}(h:McIn m):pM (eM m)=some (m,((eM m).length:Int)):=by
 have eA:m.State.Vars.foldl hY (cy (m.State.Vars.length:Int))=cy (m.State.Vars.length:Int)++eK dV m.State.Vars:=rA _ _ (fun _ _=>rfl) _ _
 have eC:∀ a,m.State.Cells.foldl gk a=a++eK ib m.State.Cells:=fun a=>rA _ _ (fun _ _=>by unfold gk ib;simp[ai]) _ _
 have eN:∀ a,m.Done.foldl jp a=a++eK cy m.Done:=fun a=>rA _ _ (fun _ _=>rfl) _ _
 have h0:(eM m).drop 0=cy (m.State.Vars.length:Int)++(eK dV m.State.Vars++(cy (m.State.Cells.length:Int)++(eK ib m.State.Cells++(cy m.State.Nr++(cy m.State.Err++(eK cy m.Done++(dz m.Out++[]))))))):=by
  rw[aQ]
  unfold eM gn gp
  rw[eN,eC,eA]
  simp[ai]
 generalize eM m=b at h0
 obtain⟨⟨v1,v2⟩,⟨c1,c2⟩,hn,he,⟨d1,d2⟩,ho⟩:=h
 obtain⟨e1,r1,p1⟩:=mj (Nat.zero_le _) ⟨by omega,by omega⟩ h0
 obtain⟨e2,r2,p2⟩:=su (pV b) dV oP (fun p x C hp hx h=>IR hp hx h) _ _ _ p1 v2 r1
 obtain⟨e3,r3,p3⟩:=mj p2 ⟨by omega,by omega⟩ r2
 obtain⟨e4,r4,p4⟩:=su (pC b) ib uP (fun p x C hp hx h=>Ud hp hx h) _ _ _ p3 c2 r3
 obtain⟨e5,r5,p5⟩:=mj p4 ⟨hn.1,by omega⟩ r4
 obtain⟨e6,r6,p6⟩:=mj p5 ⟨he.1,by omega⟩ r5
 obtain⟨e7,r7,p7⟩:=su (pN b) cy (fun n=>0≤n∧n≤100000) (fun p x C hp hx h=>mj hp ⟨hx.1,by omega⟩ h) _ _ _ p6 d2 r6
 obtain⟨e8,r8,p8⟩:=xq p7 (by omega) r7
 have hend:=congrArg List.length r8
 rw[aV,List.length_nil]at hend
 rw[d1]at e7
 unfold pM
 rw[show(0:Int)=((0:Nat):Int)from rfl,e1,aa]
 dsimp only
 rw[ag,e2,aa]
 dsimp only
 rw[e3,aa]
 dsimp only
 rw[ag,e4,aa]
 dsimp only
 rw[e5,aa]
 dsimp only
 rw[e6,aa]
 dsimp only
 rw[e7,aa]
 dsimp only
 rw[e8,aa]
 congr 2
 omega
theorem Uf{b:List Int}(hw:Bytes b){m:bC}{q:Int}(h:pM b=some (m,q)):b.take q.toNat=eM m:=by
 unfold pM at h
 obtain⟨n,hn,h⟩:=cB h
 obtain⟨vs,hvs,h⟩:=cB h
 obtain⟨k,hk,h⟩:=cB h
 obtain⟨cs,hcs,h⟩:=cB h
 obtain⟨r,hr,h⟩:=cB h
 obtain⟨e,he,h⟩:=cB h
 obtain⟨ds,hds,h⟩:=cB h
 obtain⟨o,ho,h⟩:=cB h
 have e1:(⟨⟨vs.1,cs.1,r.1,e.1⟩,ds.1,o.1⟩:bC)=m:=congrArg Prod.fst (aR h)
 have e2:o.2=q:=congrArg Prod.snd (aR h)
 have an:=cY hw (show pN b 0=some (n.1,n.2)from hn)
 obtain⟨v1,v2,v3⟩:=fW (len:=(b.length:Int)) (fun p x q h=>⟨(dY hw h).1,(dY hw h).2.1,(dY hw h).2.2.1⟩) _ _ _ _ (show pL (pV b) n.1.toNat n.2=some (vs.1,vs.2)from hvs) (by omega) an.2.2.1
 have bv:=xp (b:=b) (g:=hY) (fun p x q h=>(dY hw h).2.2.2.1) _ _ _ _ (show pL (pV b) n.1.toNat n.2=some (vs.1,vs.2)from hvs)
 have ak:=cY hw (show pN b vs.2=some (k.1,k.2)from hk)
 obtain⟨c1,c2,c3⟩:=fW (len:=(b.length:Int)) (fun p x q h=>⟨(eY hw h).1,(eY hw h).2.1,(eY hw h).2.2.1⟩) _ _ _ _ (show pL (pC b) k.1.toNat k.2=some (cs.1,cs.2)from hcs) (by omega) ak.2.2.1
 have bc:=xp (b:=b) (g:=gk) (fun p x q h=>(eY hw h).2.2.2.1) _ _ _ _ (show pL (pC b) k.1.toNat k.2=some (cs.1,cs.2)from hcs)
 have ar:=cY hw (show pN b cs.2=some (r.1,r.2)from hr)
 have ae:=cY hw (show pN b r.2=some (e.1,e.2)from he)
 have bd:=xp (b:=b) (g:=jp) (fun p x q h=>(cY hw h).2.2.2.1) _ _ _ _ (show pL (pN b) 3 e.2=some (ds.1,ds.2)from hds)
 have ao:=ml hw (show pT b ds.2=some (o.1,o.2)from ho)
 rw[← e1,← e2,ao.2.2.2.1,bd,ae.2.2.2.1,ar.2.2.2.1,bc,ak.2.2.2.1,bv,an.2.2.2.1]
 unfold eM gn gp
 dsimp only
 rw[c1,v1,show((n.1.toNat:Nat):Int)=n.1 by omega,show((k.1.toNat:Nat):Int)=k.1 by omega]
 simp
theorem TA{b:List Int}(hb:b.length≤1048576)(hw:Bytes b)(P:bG)(hp:gg P):nT P b=iP b P (pM b):=by
 rw[JS]
 cases h:pM b with
 | none =>
  obtain⟨m,a,e⟩:=Jt hb hw h
  rw[e];rfl
 | some x =>
  have hm:=pX hb hw (show pM b=some (x.1,x.2)from h)
  rw[Ju hb hw (show pM b=some (x.1,x.2)from h),aa]
  unfold iP
  dsimp only
  rw[yy P _ hp hm.1 hm.2.1,kC P _ hp hm.1 hm.2.1]
  rfl
theorem TB{b:List Int}(hb:b.length≤1048576)(hw:Bytes b)(P:bG)(hp:gg P):∃ m ok,nT P b=some (m,ok,())∧kA P b=some (m,ok,())∧(ok=false→m=fD)∧(ok=true→eM m=b∧eE P m=true∧ly m):=by
 obtain⟨m,ok,e1,e2,_⟩:=TC hb hw P hp
 have e3:=TA hb hw P hp
 rw[e1]at e3
 refine⟨m,ok,e1,e2,?_⟩
 cases h:pM b with
 | none =>
  rw[h]at e3
  have e4:=aR e3
  simp only[Prod.mk.injEq]at e4
  exact⟨fun _=>e4.1,fun h=>by rw[e4.2.1]at h;cases h⟩
 | some x =>
  have hm:=pX hb hw (show pM b=some (x.1,x.2)from h)
  have hby:=Uf hw (show pM b=some (x.1,x.2)from h)
  rw[h]at e3
  unfold iP at e3
  dsimp only at e3
  by_cases hq:x.2=(b.length:Int)
  ·rw[ac hq,bz (by decide),kC P _ hp hm.1 hm.2.1,aa]at e3
   dsimp only at e3
   cases hB:eE P x.1 with
   | false =>
    rw[hB,bw (by decide)]at e3
    have e4:=aR e3
    simp only[Prod.mk.injEq]at e4
    exact⟨fun _=>e4.1,fun h=>by rw[e4.2.1]at h;cases h⟩
   | true =>
    rw[hB,bz (by decide)]at e3
    have e4:=aR e3
    simp only[Prod.mk.injEq]at e4
    refine⟨fun h=>(by rw[e4.2.1]at h;cases h),fun _=>?_⟩
    rw[e4.1]
    refine⟨?_,hB,hm⟩
    rw[← hby,hq,ag,List.take_length]
  ·rw[af hq,bw (by decide)]at e3
   have e4:=aR e3
   simp only[Prod.mk.injEq]at e4
   exact⟨fun _=>e4.1,fun h=>by rw[e4.2.1]at h;cases h⟩
theorem Tz{P:bG}(hp:gg P){m:bC}(h:eE P m=true):McIn m:=by
 have hf:=mg h
 unfold eE at h
 rw[and_iff',and_iff',and_iff',and_iff']at h
 obtain⟨_,hs,h3,hd,ho⟩:=h
 unfold g8 at hs
 rw[and_iff',and_iff',and_iff',and_iff',and_iff']at hs
 obtain⟨s1,s2,s3,s4,s5,s6⟩:=hs
 have vin:∀ v,dK v=true→oP v:=fun v hv=>by
  have hl:=EJ hv
  unfold dK at hv
  rw[and_iff',and_iff']at hv
  obtain⟨⟨hn,_⟩,hk⟩:=hv
  refine⟨?_,of_decide_eq_true hn,hl⟩
  by_cases k0:v.Kind=0
  ·omega
  by_cases k1:v.Kind=1
  ·omega
  by_cases k2:v.Kind=2
  ·omega
  by_cases k3:v.Kind=3
  ·omega
  ·rw[bz k0,bz k1,bz k2,bz k3]at hk;cases hk
 refine⟨⟨hf.1,fun v hv=>vin v ?_⟩,⟨hf.2.2.1,fun c hc=>?_⟩,of_decide_eq_true s4,of_decide_eq_true s5,⟨hf.2.2.2.2.1,fun n hn=>?_⟩,hf.2.2.2.2.2⟩
 ·rw[Bool.not_eq_true',List.any_eq_false]at s2
  have:=s2 v hv
  simpa using this
 ·rw[Bool.not_eq_true']at s6
  obtain⟨i,hi,rfl⟩:=bq.1 hc
  have h6:=(anyB_false.1 s6) i hi
  unfold iL at h6
  rw[di hi]at h6
  have hfc:=hf.2.2.2.1 _ hc
  simp only[Bool.or_eq_false_iff,decide_eq_false_iff_not,Bool.not_eq_false']at h6
  obtain⟨q1,q2,q3,q4,_⟩:=h6
  have hcl:=hp.2.1.1
  exact⟨⟨by omega,by omega⟩,hfc.1,vin _ q4⟩
 ·rw[Bool.not_eq_true',List.any_eq_false]at hd
  have:=hd n hn
  simpa using this
theorem Bytes.app{a b:List Int}(ha:Bytes a)(hb:Bytes b):Bytes (a++b):=fun x hx=>(aE.1 hx).elim (ha x) (hb x)
theorem dI{c:bS}(h:co c)(n:Int)(hn:0<n):Tot (dH c n) (fun y=>(0≤y.1∧y.1<n)∧co y.2.1):=by
 obtain⟨x,c',e,k,a,b,_⟩:=rc h n
 exact te e ⟨⟨a,b hn⟩,k⟩
theorem kO{c:bS}(h:co c)(l:List (List Int))(hl:l≠[]):Tot (gX c l) (fun y=>y.1∈l∧co y.2.1):=by
 obtain⟨x,c',e,k,m⟩:=xu h l hl
 exact te e ⟨m,k⟩
theorem mn{c:bS}(h:co c)(l:List Int)(hl:l≠[]):Tot (gY c l) (fun y=>y.1∈l∧co y.2.1):=by
 obtain⟨x,c',e,k,m⟩:=Ut h l hl
 exact te e ⟨m,k⟩
theorem IJ{c:bS}(h:co c)(n:Int):Tot (tR c n) (fun y=>co y.2.1):=by
 obtain⟨x,c',e,k,_⟩:=rc h n
 rw[Xt,e]
 exact ts k
theorem kJ{l:List (List Int)}{n:Nat}{x:List Int}(hl:(l.all fun t=>decide (t.length≤n)&&t.all fun b=>decide (0≤b∧b≤255))=true)(h:x∈l):x.length≤n∧Bt x:=by
 have:=List.all_eq_true.1 hl x h
 rw[aD,ab]at this
 exact⟨this.1,fun b hb=>of_decide_eq_true (List.all_eq_true.1 this.2 b hb)⟩
theorem eB{a b:List Int}(ha:Bt a)(hb:Bt b):Bt (a++b):=fun x hx=>(aE.1 hx).elim (ha x) (hb x)
theorem lG:Bt []:=fun x hx=>by cases hx
theorem To{c:bS}(h:co c):Tot (y6 c) (fun y=>(y.1.length≤100∧Bt y.1)∧co y.2.1):=by
 rw[Wp]
 have key:∀ (d i:Nat) (t:List Int) (c:bS),co c→i+d=4→t.length≤5*i→Bt t→Tot (tm t (i:Int) c) (fun y=>(y.1.length≤100∧Bt y.1)∧co y.2.1):=by
  intro d
  induction d with
  | zero =>
   intro i t c h hd ht hb
   rw[Kc]
   exact tb (dI h 5 (by omega)) (fun y hy=>tn (by rw[ab];omega) (ts ⟨⟨by show t.length≤_;omega,hb⟩,hy.2⟩))
  | succ d ih =>
   intro i t c h hd ht hb
   rw[Kc,cE (n:=4) (by omega) (by omega)]
   refine tb (dI h 5 (by omega)) (fun y hy=>ti (fun _=>tb (kO hy.2 _ (by simp)) (fun u hu=>?_)) (fun _=>ts ⟨⟨by show t.length≤_;omega,hb⟩,hy.2⟩))
   have l2:=kJ (n:=3) (by decide) hu.1
   refine tc (by omega) (tb (kO hu.2 _ (by simp)) (fun v hv=>?_))
   have l3:=kJ (n:=2) (by decide) hv.1
   refine tc (by rw[ah];omega) (ih (i+1) _ _ hv.2 (by omega) (by rw[ah,ah];omega) (eB (eB hb l2.2) l3.2))
 exact key 4 0 [] c h (by omega) (by simp) lG
def CmW(c:bB):Prop:=c.Line.length≤100∧Bt c.Line
theorem Na{c:bS}(h:co c):Tot (zK c) (fun y=>CmW y.1∧co y.2.1):=by
 rw[Xd]
 exact tb (IJ h 8) (fun y hy=>ti (fun _=>ts ⟨⟨by simp,lG⟩,hy⟩) (fun _=>tb (dI hy 3 (by omega)) (fun z hz=>tb (dI hz.2 5 (by omega)) (fun u hu=>tb (To hu.2) (fun v hv=>ts ⟨hv.1,hv.2⟩)))))
theorem Nb{c:bS}(h:co c)(n:Nat)(hn:n≤100):Tot (zL c (n:Int)) (fun y=>(y.1.length≤100∧∀ x∈y.1,CmW x)∧co y.2.1):=by
 rw[Xe,aw]
 refine tb (dI h _ (by omega)) (fun y hy=>?_)
 obtain⟨m,hm⟩:=Int.eq_ofNat_of_zero_le hy.1.1
 rw[hm]
 have key:∀ (d i:Nat) (l:List bB) (c:bS),co c→i+d=m→l.length=i→(∀ x∈l,CmW x)→Tot (tF l (m:Int) (i:Int) c) (fun y=>(y.1.length≤100∧∀ x∈y.1,CmW x)∧co y.2.1):=by
  intro d
  induction d with
  | zero =>
   intro i l c hc hd hl hw
   rw[Km,av]
   exact ts ⟨⟨by show l.length≤_;omega,hw⟩,hc⟩
  | succ d ih =>
   intro i l c hc hd hl hw
   rw[Km,au,aw (n:=(i:Int)+1)]
   refine tb (Na hc) (fun z hz=>tc (by rw[ce];omega) (ih (i+1) _ _ hz.2 (by omega) (by show(l++[_]).length=_;rw[ah,hl];rfl) (fun x hx=>?_)))
   rcases aE.1 (show x∈l++[_]from hx)with hx | hx
   ·exact hw x hx
   ·rw[aN.1 hx];exact hz.1
 exact key m 0 [] _ hy.2 (by omega) rfl (fun x hx=>by cases hx)
theorem Tx{p:bG}(hp:PrW p)(hr:s_ProgOk p=some (true,())){cs:List bB}(hl:cs.length≤1000)(hc:∀ c∈cs,CmW c):Tot (sV p cs) (fun y=>McW p.Vars.length y.1):=by
 obtain⟨y,e,hy⟩:=Ty hp hl (fun c h=>⟨by have:=(hc c h).1;omega,(hc c h).2⟩)
 refine⟨y,e,hy.resolve_left fun hy=>?_⟩
 rw[JQ,hr,aa,bz (by simp)]at e
 obtain⟨m,e2,hm⟩:=Iv hp
 rw[e2,aa]at e
 have len:∀ (d i:Nat) (m:bC) (y:bC×Unit),i+d=cs.length→McW p.Vars.length m→nS cs (i:Int) p cP m=some y→McW p.Vars.length y.1:=by
  intro d
  induction d with
  | zero =>
   intro i m y hd hm e
   rw[sW,av]at e
   cases e;exact hm
  | succ d ih =>
   intro i m y hd hm e
   have hi:i<cs.length:=by omega
   obtain⟨h1,h2⟩:=hc _ (aZ hi)
   rw[sW,au,ap,cW hi,JB _ (by omega),aa,cE hi (by omega)]at e
   dsimp only at e
   by_cases c:na cs[i]=true
   ·rw[bw c,ap]at e
    have cw:cs[i].Who<3:=by
     have c':=c
     unfold na at c'
     by_cases e:(cs[i].Who) = -1
     ·omega
     ·simp[e]at c';omega
    obtain⟨z,e3,hz⟩:=GG hp hm cw (by omega) h2
    rw[e3,aa]at e
    exact ih (i+1) _ _ (by omega) hz e
   ·rw[bz c]at e
    exact ih (i+1) _ _ (by omega) hm e
 have h3:=(len cs.length 0 _ _ (by omega) hm e).2.1
 rw[hy]at h3
 cases h3
theorem iK(n:Int):Bt (cy n):=UJ n
theorem rf{t:List Int}(h:Bt t):Bt (dz t):=eB (iK _) h
theorem FY(n:Int):Bt (eF n):=by
 unfold eF
 split
 ·exact iK _
 ·exact lG
theorem re{α:Type}(f:List Int→α→List Int)(P:α→Prop)(hf:∀ a x,Bt a→P x→Bt (f a x)):∀ (l:List α) (a:List Int),Bt a→(∀ x∈l,P x)→Bt (l.foldl f a)
 | [],a,ha,_=>ha
 | x::l,a,ha,h=>re f P hf l (f a x) (hf a x ha (h x aH)) (fun y hy=>h y (aI _ hy))
theorem NK{c:bS}(h:co c){b:List Int}(hl:b.length≤1000000)(hb:Bt b):Tot (zO c b) (fun y=>(y.1.length≤b.length+1∧Bt y.1)∧co y.2.1):=by
 rw[Xl,aw]
 refine tb (dI h _ (by omega)) (fun y hy=>tb (dI hy.2 5 (by omega)) (fun z hz=>ti (fun _=>tc (by omega) (ts ⟨⟨?_,fun x hx=>hb x (by first | exact List.mem_of_mem_drop (List.mem_of_mem_take hx) | exact List.mem_of_mem_take hx)⟩,hz.2⟩)) (fun _=>ti (fun _=>?_) (fun _=>ts ⟨⟨by show b.length≤_;omega,hb⟩,hz.2⟩))))
 ·simp only[aU,aV];omega
 ·refine tc (by omega) (tc (by rw[ce,aU,aV];omega) (tb (mn hz.2 _ (by simp)) (fun u hu=>tc (by omega) (tc (by rw[ce,aU,aV];omega) (tc ?_ (ts ⟨⟨?_,?_⟩,hu.2⟩))))))
  ·show(List.take _ (List.drop 0 b)).length+([_]++List.take _ (List.drop _ b)).length≤_
   rw[ce,ah,aU,aV,aU,aV,bo];omega
  ·show(List.take _ (List.drop 0 b)++([_]++List.take _ (List.drop _ b))).length≤_
   rw[ah,ah,aU,aV,aU,aV,bo];omega
  ·exact eB (fun x hx=>hb x (List.mem_of_mem_drop (List.mem_of_mem_take (show x∈List.take _ (List.drop 0 b)from hx)))) (eB (a:=[_]) (fun x hx=>by rw[aN.1 hx];exact Lv _) (fun x hx=>hb x (List.mem_of_mem_drop (List.mem_of_mem_take hx))))
theorem GA{c:bS}(h:co c):Tot (tM c) (fun y=>co y.2.1):=by
 rw[Xr]
 exact tb (mn h _ (by simp)) (fun z hz=>ts hz.2)
theorem Mu{c:bS}(h:co c):Tot (zT c) (fun y=>co y.2.1):=by
 rw[Xq]
 exact tb (IJ h 6) (fun y hy=>ti (fun _=>tb (mn hy _ (by simp)) (fun z hz=>ts hz.2)) (fun _=>tb (GA hy) (fun z hz=>ts hz)))
theorem EK{c:bS}(h:co c):Tot (qA c) (fun y=>VW y.1∧co y.2.1):=by
 rw[XT]
 refine tb (dI h 4 (by omega)) (fun y hy=>ti (fun _=>ts ⟨lq _ _,hy.2⟩) (fun _=>ti (fun _=>tb (GA hy.2) (fun z hz=>ts ⟨lq _ _,hz⟩)) (fun _=>ti (fun _=>tb (kO hy.2 _ (by simp)) (fun z hz=>ts ⟨?_,hz.2⟩)) (fun _=>tb (kO hy.2 _ (by simp)) (fun z hz=>?_)))))
 ·exact kJ (n:=300) (by decide) hz.1
 ·have:=kJ (n:=300) (by decide) hz.1
  exact tb (sB (by omega) this.2) (fun u hu=>ts ⟨hu,hz.2⟩)
theorem YQ{c:bS}(h:co c):Tot (Aj c) (fun y=>Bt y.1.S∧co y.2.1):=by
 rw[XU]
 refine tb (EK h) (fun v hv=>tb (dI hv.2 12 (by omega)) (fun y hy=>ti (fun _=>tb (dI hy.2 6 (by omega)) (fun z hz=>ts ⟨hv.1.2,hz.2⟩)) (fun _=>ti (fun _=>tb (Mu hy.2) (fun z hz=>ts ⟨hv.1.2,hz⟩)) (fun _=>ti (fun _=>tc (by have:=hv.1.1;simp only[aW,List.length_nil];omega) (ts ⟨eB hv.1.2 (fun x hx=>by rw[aN.1 hx];omega),hy.2⟩)) (fun _=>ts ⟨hv.1.2,hy.2⟩)))))
theorem GF{c:bS}(h:co c):Tot (tl c) (fun y=>TW y.1∧co y.2.1):=by
 rw[Wo]
 exact tb (kO h _ (by simp)) (fun z hz=>ts ⟨kJ (n:=300) (by decide) hz.1,hz.2⟩)
def SmS(s:bJ):Prop:=(s.Vars.length≤100∧∀ v∈s.Vars,Bt v.S)∧s.Cells.length≤100∧∀ c∈s.Cells,Bt c.Key∧Bt c.Val.S
theorem SmS.big{s:bJ}(h:SmS s):mY s:=⟨⟨by have:=h.1.1;omega,h.1.2⟩,by have:=h.2.1;omega,fun c hc=>(h.2.2 c hc).2⟩
theorem Lc{nv:Nat}(hn:nv≤8){s:bJ}(h:SW nv s):SmS s:=⟨⟨by have:=h.1.1;omega,fun v hv=>(h.1.2 v hv).2⟩,by have:=h.2.1;omega,fun c hc=>⟨(h.2.2 c hc).1.2,(h.2.2 c hc).2.2⟩⟩
theorem Yp(n:Nat)(hn:n≤100):Tot (nX (n:Int)) (fun y=>SW (min n 8) y.1):=by
 have e1:qx (n:Int) 8=some (((min n 8:Nat):Int),()):=by
  rw[zU]
  by_cases c:(n:Int)<8
  ·rw[am c,show min n 8=n by omega]
  ·rw[al c,show min n 8=8 by omega];rfl
 have e2:ja 0 ((min n 8:Nat):Int)=some (((min n 8:Nat):Int),()):=by
  rw[tN,av]
 rw[J6,e1,aa]
 dsimp only
 rw[e2,aa]
 dsimp only
 refine tc ⟨by omega,by omega,by rw[ce];omega⟩ (ts ⟨⟨?_,fun v hv=>?_⟩,by simp,fun c hc=>by cases hc⟩)
 ·show(List.replicate _ _).length=_
  rw[bf];omega
 ·rw[List.eq_of_mem_replicate hv];exact EM
theorem Yq{c:bS}(h:co c)(n k:Nat)(hn:n≤100):Tot (y7 c (n:Int) (k:Int)) (fun y=>SW (min n 8) y.1∧co y.2.1):=by
 have E:∀ {c:bS} {s:bJ} {nv:Nat},co c→SW nv s→Tot ((gY c [0,1,5,5,1000000,999999]).bind fun(r5:Int×bS×Unit)=>some ((bJ.mk s.Vars s.Cells r5.1 s.Err),r5.2.1,())) (fun y=>SW nv y.1∧co y.2.1):=fun {c s nv} hc hs=>tb (mn hc _ (by simp)) (fun z hz=>ts ⟨hs,hz.2⟩)
 have L2:∀ (d i:Nat) (c:bS) (s:bJ),co c→i+d=6→SW (min n 8) s→Tot (tq (k:Int) (i:Int) c cF s) (fun y=>SW (min n 8) y.1∧co y.2.1):=by
  intro d
  induction d with
  | zero =>
   intro i c s hc hd hs
   rw[Ke]
   exact tb (dI hc 6 (by omega)) (fun y hy=>tn (by rw[ab];omega) (E hy.2 hs))
  | succ d ih =>
   intro i c s hc hd hs
   rw[Ke,cE (n:=7) (by omega) (by omega)]
   refine tb (dI hc 6 (by omega)) (fun y hy=>ti (fun _=>ti (fun hk=>?_) (fun _=>E hy.2 hs)) (fun _=>E hy.2 hs))
   rw[ab]at hk
   exact tb (dI hy.2 _ hk) (fun z hz=>tb (GF hz.2) (fun u hu=>tb (EK hu.2) (fun v hv=>tb (I7 hs (by omega) _ hu.1 hv.1) (fun w hw=>ih (i+1) _ _ hv.2 (by omega) hw))))
 have L1:∀ (d i:Nat) (c:bS) (s:bJ),co c→i+d=s.Vars.length→SW (min n 8) s→Tot (tp (k:Int) (i:Int) c cF s) (fun y=>SW (min n 8) y.1∧co y.2.1):=by
  intro d
  induction d with
  | zero =>
   intro i c s hc hd hs
   rw[Kd,av]
   exact L2 6 0 c s hc (by omega) hs
  | succ d ih =>
   intro i c s hc hd hs
   have hi:i<s.Vars.length:=by omega
   have hl:=hs.1.1
   rw[Kd,au,cE hi (by omega)]
   refine tb (EK hc) (fun v hv=>tc (by omega) (ih (i+1) _ _ hv.2 (by show _=(List.set _ _ _).length;rw[a8];omega) ⟨⟨by show(List.set _ _ _).length=_;rw[a8];exact hl,fun x hx=>?_⟩,hs.2⟩))
   rcases List.mem_or_eq_of_mem_set hx with hx | rfl
   ·exact hs.1.2 x hx
   ·exact hv.1
 rw[Wq]
 exact tb (Yp n hn) (fun y hy=>L1 y.1.Vars.length 0 c y.1 h (by omega) hy)
theorem Yr{c:bS}(h:co c)(n k:Nat)(hn:n≤100):Tot (yZ c (n:Int) (k:Int)) (fun y=>SmS y.1∧co y.2.1):=by
 have L1:∀ {c:bS} {s:bJ},co c→SmS s→Tot (kW c cF s) (fun y=>SmS y.1∧co y.2.1):=fun {c s} hc hs=>by
  rw[Wr];exact ts ⟨hs,hc⟩
 have cell:∀ {s:bJ} (hs:SmS s) (hl:s.Cells.length≤99) (n:Int) (k:List Int),Bt k→SmS ⟨s.Vars,List.append s.Cells [bA.mk n k cz],s.Nr,s.Err⟩:=fun {s} hs hl n k hk=>by
  refine⟨hs.1,?_,fun x hx=>?_⟩
  ·show(s.Cells++[_]).length≤100
   rw[ah,bo];omega
  ·rcases aE.1 (show x∈s.Cells++[_]from hx)with hx | hx
   ·exact hs.2.2 x hx
   ·rw[aN.1 hx];exact⟨hk,lG⟩
 have L2:∀ (d:Nat) (c:bS) (s:bJ),co c→SmS s→41≤s.Cells.length+d→s.Cells.length≤50→Tot (tr c cF s) (fun y=>SmS y.1∧co y.2.1):=by
  intro d
  induction d with
  | zero =>
   intro c s hc hs hd hl
   rw[Kf]
   refine tb (dI hc 2 (by omega)) (fun y hy=>?_)
   rw[aw (n:=40+y.1)]
   exact tn (by rw[ab];omega) (L1 hy.2 hs)
  | succ d ih =>
   intro c s hc hs hd hl
   rw[Kf]
   refine tb (dI hc 2 (by omega)) (fun y hy=>?_)
   rw[aw (n:=40+y.1),aw (n:=100+(s.Cells.length:Int))]
   refine ti (fun c2=>?_) (fun _=>L1 hy.2 hs)
   rw[ab]at c2
   rw[show(100:Int)+(s.Cells.length:Int)=((100+s.Cells.length:Nat):Int) by omega,wR _ (by omega),aa]
   refine tc (by rw[ce];omega) (ih _ _ hy.2 (cell hs (by omega) _ _ (vx _)) ?_ ?_)
   ·show 41≤(s.Cells++[_]).length+d
    rw[ah,bo];omega
   ·show(s.Cells++[_]).length≤50
    rw[ah,bo];omega
 rw[Ws]
 refine tb (Yq h n k hn) (fun s hs=>?_)
 have sm:=Lc (by omega) hs.1
 have h1:=hs.1.1.1
 have h2:=hs.1.2.1
 refine tb (dI hs.2 14 (by omega)) (fun y hy=>ti (fun _=>tb (dI hy.2 10 (by omega)) (fun z hz=>L1 hz.2 sm)) (fun _=>ti (fun _=>tb (mn hy.2 _ (by simp)) (fun z hz=>L1 hz.2 sm)) (fun _=>ti (fun _=>tb (YQ hy.2) (fun z hz=>tc (by rw[ce];omega) (L1 hz.2 ⟨⟨?_,fun x hx=>?_⟩,sm.2⟩))) (fun _=>ti (fun _=>tb (dI hy.2 3 (by omega)) (fun z hz=>tb (GF hz.2) (fun u hu=>tc (by rw[ce];omega) (L1 hu.2 (cell sm (by omega) _ _ hu.1.2))))) (fun _=>ti (fun _=>L2 41 _ _ hy.2 sm (by omega) (by omega)) (fun _=>L1 hy.2 sm))))))
 ·show(s.1.Vars++[_]).length≤100
  rw[ah,bo];omega
 ·rcases aE.1 (show x∈s.1.Vars++[_]from hx)with hx | hx
  ·exact sm.1.2 x hx
  ·rw[aN.1 hx];exact hz.1
theorem X6(l:List Int)(hl:l.length≤1000000):wV l l=some (true,()):=by
 have key:∀ (d i:Nat),i+d=l.length→se l l (i:Int)=some (true,()):=by
  intro d
  induction d with
  | zero=>intro i hd;rw[H6,av]
  | succ d ih =>
   intro i hd
   have hi:i<l.length:=by omega
   rw[H6,au,ap,ap,bz (by simp),cE hi (by omega)]
   exact ih (i+1) (by omega)
 rw[Qe,bz (by simp)]
 exact key l.length 0 (by omega)
theorem X8(s:bJ)(h1:s.Vars.length≤1000000)(h2:s.Cells.length≤1000000):wX s s=some (true,()):=by
 have L2:∀ (d i:Nat),i+d=s.Cells.length→sg (i:Int) s s=some (true,()):=by
  intro d
  induction d with
  | zero=>intro i hd;rw[H8,av]
  | succ d ih =>
   intro i hd
   have hi:i<s.Cells.length:=by omega
   rw[H8,au,ap,ap,bz (by simp),cE hi (by omega)]
   exact ih (i+1) (by omega)
 have L1:∀ (d i:Nat),i+d=s.Vars.length→sf (i:Int) s s=some (true,()):=by
  intro d
  induction d with
  | zero =>
   intro i hd
   rw[H7,av]
   exact L2 s.Cells.length 0 (by omega)
  | succ d ih =>
   intro i hd
   have hi:i<s.Vars.length:=by omega
   rw[H7,au,ap,ap,bz (by simp),cE hi (by omega)]
   exact ih (i+1) (by omega)
 rw[Qg,bz (by simp),bz (by simp),bz (by simp),bz (by simp)]
 exact L1 s.Vars.length 0 (by omega)
theorem X7(p:bG)(m:bC)(h1:m.State.Vars.length≤1000000)(h2:m.State.Cells.length≤1000000)(h3:m.Done.length≤1000000):wW p m m=some (true,()):=by
 rw[Qf,X8 _ h1 h2,aa,bw rfl,X6 _ h3,aa,bw rfl,ac rfl]
def SmM(m:bC):Prop:=SmS m.State∧m.Done.length≤100∧(m.Out.length≤10000∧Bt m.Out)
theorem SmM.big{m:bC}(h:SmM m):ly m:=⟨h.1.big,by have:=h.2.1;omega,by have:=h.2.2.1;omega⟩
theorem Ir{nv:Nat}(hn:nv≤8){m:bC}(h:McW nv m):SmM m:=⟨Lc hn h.1,by have:=h.2.1;omega,by have:=h.2.2.1;omega,h.2.2.2⟩
theorem FZ{m:bC}(h:SmM m):Bt (eM m):=by
 unfold eM gn gp
 refine eB (re _ (fun _=>True) (fun a x ha _=>eB ha (iK _)) _ _ (eB (eB (re _ (fun c:bA=>Bt c.Key∧Bt c.Val.S) (fun a x ha hx=>eB (eB (eB ha (iK _)) (rf hx.1)) (eB (eB (iK _) (FY _)) (rf hx.2))) _ _ (eB (re _ (fun v:bL=>Bt v.S) (fun a x ha hx=>?_) _ _ (iK _) h.1.1.2) (iK _)) h.1.2.2) (iK _)) (iK _)) (fun _ _=>trivial)) (rf h.2.2.2)
 exact eB ha (eB (eB (iK _) (FY _)) (rf hx))
theorem Ub(m:bC):0<(dz m.Out).length:=by
 unfold dz
 rw[ah]
 by_cases h:m.Out.length=0
 ·rw[h];decide
 ·omega
theorem Ua(p:bG)(m:bC):decide (((gw p m).length:Int)>0)=eE p m:=by
 unfold gw
 cases eE p m with
 | false=>rfl
 | true =>
  rw[bw rfl]
  have:=Ub m
  unfold eM
  rw[ah]
  exact ac (by omega)
theorem Uc{p:bG}(hp:gg p){m:bC}(hm:SmM m)(h:eE p m=true):kA p (eM m)=some (m,true,()):=by
 have hin:=Tz hp h
 have hw:Bytes (eM m):=FZ hm
 have hl:=Ip (mg h)
 have hr:=Ug hin
 rcases Hu (by omega) hw p with ⟨_,h2⟩ | h1
 ·rcases h2 m _ hr with h3 | h3
  ·have:=hin.vars.1;omega
  ·have:=hin.cells.1;omega
 ·rw[h1,hr]
  unfold iP
  dsimp only
  have hb:=hm.big
  rw[ac rfl,bz (by decide),kC p m hp hb.1 hb.2.1,aa,h]
  dsimp only
  rw[bz (by decide)]
set_option maxRecDepth 1000000
def nmC(l:List (List Int)):Bool:=decide (l.length≤100)&&l.all fun t=>decide (t.length≤300)
def K8(s:List Int):Bool:=match (ni 300).s_Build s with
 | some (p,_,_)=>nmC p.Vars&&nmC p.Cells
 | none=>false
theorem Yl:(srcs.all K8)=true:=by kernel_rfl
def NmW(l:List (List Int)):Prop:=l.length≤100∧∀ t∈l,t.length≤300
theorem Ix{l:List (List Int)}(h:nmC l=true):NmW l:=by
 unfold nmC at h
 rw[aD,ab]at h
 exact⟨h.1,fun t ht=>of_decide_eq_true (List.all_eq_true.1 h.2 t ht)⟩
theorem MQ{s:List Int}(h:s∈srcs):Tot (s_Build s) (fun y=>NmW y.1.Vars∧NmW y.1.Cells):=by
 have h2:=List.all_eq_true.1 Yl s h
 unfold K8 at h2
 split at h2
 ·rename_i p c u e
  rw[aD]at h2
  exact te ((bZ 300).s_Build _ _ e) ⟨Ix h2.1,Ix h2.2⟩
 ·cases h2
theorem YC{α:Type}{x:Option α}{P Q:α→Prop}(h:Tot x P)(k:Tot x Q):Tot x (fun y=>P y∧Q y):=by
 obtain⟨y,e,hy⟩:=h
 obtain⟨z,e2,hz⟩:=k
 rw[e]at e2
 cases e2
 exact⟨y,e,hy,hz⟩
def RiP(p:bG):Prop:=(PrW p∧s_ProgOk p=some (true,()))∧NmW p.Vars∧NmW p.Cells
theorem Ji{c:bS}(h:co c):Tot (tB c) (fun y=>RiP y.1∧co y.2.1):=by
 rw[WT,KE,La,aa]
 dsimp only
 obtain⟨x,c',e,k,m⟩:=xu h srcs (by simp[srcs])
 rw[e,aa,aa]
 exact tb (YC (F5 m) (MQ m)) (fun y hy=>ts ⟨hy,k⟩)
theorem Jh{c:bS}(h:co c):Tot (tG c) (fun y=>RiP y.1∧McW y.1.Vars.length y.2.1∧co y.2.2.1):=by
 rw[Xf]
 exact tb (Ji h) (fun y hy=>tb (Nb hy.2 8 (by omega)) (fun z hz=>tb (Tx hy.1.1.1 hy.1.1.2 (by have:=hz.1.1;omega) hz.1.2) (fun m hm=>ts ⟨hy.1,hm,hz.2⟩)))
def SmO(o:bE):Prop:=Bt o.S∧o.S.length≤1000
def SmL(l:List bE):Prop:=l.length≤200000∧∀ o∈l,SmO o
theorem SmL.big{l:List bE}(h:SmL l):mX l:=⟨by have:=h.1;omega,fun o ho=>⟨(h.2 o ho).1,by have:=(h.2 o ho).2;omega⟩⟩
theorem xR{nv:Int}{l:List bE}(h:qZ nv l):SmL l:=⟨by have:=h.1.2;omega,fun o ho=>by
 obtain⟨i,hi,rfl⟩:=bq.1 ho
 have:=(h.2 i hi).text
 exact⟨this.2,by have:=this.1;omega⟩⟩
theorem K1{l:List bE}(h:SmL l)(i:Nat):SmO (l.getD i dd):=by
 by_cases c:i<l.length
 ·rw[di c];exact h.2 _ (aZ c)
 ·rw[List.getD_eq_getElem?_getD,List.getElem?_eq_none (by omega)];exact⟨lG,by decide⟩
theorem uf{l:List bE}(h:SmL l)(i:Nat){o:bE}(ho:SmO o):SmL (List.set l i o):=⟨by rw[a8];exact h.1,fun x hx=>by
 rcases List.mem_or_eq_of_mem_set hx with hx | rfl
 ·exact h.2 x hx
 ·exact ho⟩
theorem Yh{l:List bE}(h:SmL l)(i:Nat):SmL (List.take i l):=⟨by rw[aU];have:=h.1;omega,fun x hx=>h.2 x (List.mem_of_mem_take hx)⟩
theorem NA{c:bS}(h:co c):Tot (zg c) (fun y=>(y.1.length≤100000∧SmL y.1)∧co y.2.2.2.1):=by
 rw[WK,X0,KE,La,aa]
 dsimp only
 obtain⟨x,c',e,k,m⟩:=xu h srcs (by simp[srcs])
 rw[e,aa,aa]
 refine tb (P:=fun r=>Tot (mu r.1) (fun z=>PrW z.1∧s_ProgOk z.1=some (true,()))∧co r.2.1) (tb (Nt m) (fun y hy=>ts ⟨hy,k⟩)) (fun r hr=>tb hr.1 (fun z hz=>?_))
 have h1:=hz.1.main.1.2
 exact tc (by rw[ce];omega) (ts ⟨⟨h1,xR hz.1.main⟩,hr.2⟩)
theorem NB{c:bS}(h:co c):Tot (zf c) (fun y=>SmL y.1∧co y.2.2.2.1):=by
 have L1:∀ {l:List bE} {a b:Int} {c:bS},SmL l→co c→Tot (jU l a b c) (fun y=>SmL y.1∧co y.2.2.2.1):=fun {l a b c} hl hc=>by
  rw[WL];exact ts ⟨hl,hc⟩
 rw[WM]
 refine tb (NA h) (fun y hy=>ti (fun _=>ts ⟨hy.1.2,hy.2⟩) (fun c0=>?_))
 rw[ab]at c0
 have hl:=hy.1.1
 have hpos:0<(y.1.length:Int):=by omega
 refine tb (dI hy.2 _ hpos) (fun k hk=>tb (dI hk.2 12 (by omega)) (fun q hq=>ti (fun _=>?_) (fun _=>ti (fun _=>?_) (fun _=>ti (fun _=>?_) (fun _=>ti (fun _=>?_) (fun _=>ti (fun _=>?_) (fun _=>ti (fun _=>?_) (fun _=>?_))))))))
 ·exact tb (dI hq.2 39 (by omega)) (fun z hz=>tc hk.1 (L1 (uf hy.1.2 _ (K1 hy.1.2 _)) hz.2))
 ·exact tb (mn hq.2 _ (by simp)) (fun z hz=>tc hk.1 (L1 (uf hy.1.2 _ (K1 hy.1.2 _)) hz.2))
 ·refine tb (kO hq.2 _ (by simp)) (fun z hz=>tc hk.1 (L1 (uf hy.1.2 _ ?_) hz.2))
  have:=kJ (n:=300) (by decide) hz.1
  exact⟨this.2,by have:=this.1;show z.1.length≤1000;omega⟩
 ·rw[aw (n:=(y.1.length:Int)-1)]
  exact tc (by omega) (L1 (Yh hy.1.2 _) hq.2)
 ·exact tb (dI hq.2 5 (by omega)) (fun z hz=>L1 hy.1.2 hz.2)
 ·exact tb (dI hq.2 4 (by omega)) (fun z hz=>L1 hy.1.2 hz.2)
 ·exact L1 hy.1.2 hq.2
def SmN(l:List (List Int)):Prop:=l.length≤200∧∀ t∈l,t.length≤400
def SmP(p:bG):Prop:=(SmN p.Vars∧SmN p.Cells)∧SmL p.Start∧SmL p.Main
theorem SmP.big{p:bG}(h:SmP p):gg p:=⟨⟨by have:=h.1.1.1;omega,fun s hs=>by have:=h.1.1.2 s hs;omega⟩,⟨by have:=h.1.2.1;omega,fun s hs=>by have:=h.1.2.2 s hs;omega⟩,h.2.1.big,h.2.2.big⟩
theorem NmW.sm{l:List (List Int)}(h:NmW l):SmN l:=⟨by have:=h.1;omega,fun t ht=>by have:=h.2 t ht;omega⟩
theorem RiP.sm{p:bG}(h:RiP p):SmP p:=⟨⟨h.2.1.sm,h.2.2.sm⟩,xR h.1.1.start,xR h.1.1.main⟩
theorem Iy{l:List (List Int)}(h:NmW l){t:List Int}(ht:t.length≤300):SmN (List.append l [t]):=⟨by
 show(l++[_]).length≤200
 rw[ah,bo];have:=h.1;omega,fun x hx=>by
 rcases aE.1 (show x∈l++[_]from hx)with hx | hx
 ·have:=h.2 x hx;omega
 ·rw[aN.1 hx];omega⟩
theorem NC{c:bS}(h:co c):Tot (zk c) (fun y=>SmP y.1∧co y.2.1):=by
 have L1:∀ {a:bG} {v k:List (List Int)} {s m:List bE} {c:bS},SmP ⟨v,k,s,m⟩→co c→Tot (kY c a v k s m) (fun y=>SmP y.1∧co y.2.1):=fun {a v k s m c} hp hc=>by
  rw[WU];exact ts ⟨hp,hc⟩
 rw[WV]
 refine tb (Ji h) (fun y hy=>tb (dI hy.2 12 (by omega)) (fun q hq=>?_))
 have sm:=hy.1.sm
 have hm:=hy.1.1.1.main.1.2
 refine ti (fun _=>?_) (fun _=>ti (fun _=>?_) (fun _=>ti (fun _=>?_) (fun _=>ti (fun _=>?_) (fun _=>ti (fun _=>?_) (fun _=>?_)))))
 ·exact tb (NB hq.2) (fun z hz=>L1 ⟨sm.1,sm.2.1,hz.1⟩ hz.2)
 ·refine tb (kO hq.2 _ (by simp)) (fun z hz=>tc (by have:=sm.1.1.1;rw[ce];omega) (L1 ⟨⟨Iy hy.1.2.1 (kJ (n:=300) (by decide) hz.1).1,sm.1.2⟩,sm.2⟩ hz.2))
 ·refine tb (kO hq.2 _ (by simp)) (fun z hz=>tc (by have:=sm.1.2.1;rw[ce];omega) (L1 ⟨⟨sm.1.1,Iy hy.1.2.2 (kJ (n:=300) (by decide) hz.1).1⟩,sm.2⟩ hz.2))
 ·exact L1 ⟨sm.1,⟨by simp,fun o ho=>by cases ho⟩,sm.2.2⟩ hq.2
 ·have hl:(List.append y.1.Main [(bE.mk 12 0 []),(bE.mk 36 0 [])]).length=y.1.Main.length+2:=by
   show(y.1.Main++_).length=_
   rw[ah];rfl
  have hz:SmO (bE.mk 12 0 []):=⟨lG,by decide⟩
  refine tc (by rw[ce];omega) (tc (by rw[hl];omega) (L1 ⟨sm.1,sm.2.1,uf ⟨by rw[hl];omega,fun o ho=>?_⟩ 0 hz⟩ hq.2))
  rcases aE.1 (show o∈y.1.Main++_ from ho)with ho | ho
  ·exact sm.2.2.2 o ho
  ·rcases aO.1 ho with rfl | ho
   ·exact hz
   ·rw[aN.1 ho];exact hz
 ·exact L1 sm hq.2
theorem ND{c:bS}(h:co c):Tot (zJ c) (fun y=>SmP y.1∧SmM y.2.1):=by
 have L1:∀ {a:bG} {x:bC} {p:bG} {s:bJ} {d o:List Int} {c:bS},SmP p→SmM ⟨s,d,o⟩→Tot (k9 c a x p s d o) (fun y=>SmP y.1∧SmM y.2.1):=fun {a x p s d o c} hp hm=>by
  rw[Xg];exact ts ⟨hp,hm⟩
 have L2:∀ (d:Nat) (c:bS) (a:bG) (x:bC) (p:bG) (m:bC),co c→SmP p→SmM m→m.Out.length≤1600→1502≤m.Out.length+d→Tot (tH c a x p m) (fun y=>SmP y.1∧SmM y.2.1):=by
  intro d
  induction d with
  | zero =>
   intro c a x p m hc hp hm ho hd
   rw[Kn]
   refine tb (dI hc 2 (by omega)) (fun y hy=>?_)
   rw[aw (n:=1500+y.1)]
   exact tn (by rw[ab];omega) (L1 hp hm)
  | succ d ih =>
   intro c a x p m hc hp hm ho hd
   rw[Kn]
   refine tb (dI hc 2 (by omega)) (fun y hy=>?_)
   rw[aw (n:=1500+y.1)]
   refine ti (fun c2=>?_) (fun _=>L1 hp hm)
   rw[ab]at c2
   refine tc (by rw[bo];omega) (ih _ _ _ _ _ hy.2 hp ⟨hm.1,hm.2.1,?_,eB hm.2.2.2 (fun z hz=>by rw[aN.1 hz];omega)⟩ ?_ ?_)
   ·show(m.Out++[_]).length≤_
    rw[ah,bo];omega
   ·show(m.Out++[_]).length≤_
    rw[ah,bo];omega
   ·show 1502≤(m.Out++[_]).length+d
    rw[ah,bo];omega
 rw[Xh]
 refine tb (Jh h) (fun y hy=>?_)
 have hv:y.1.Vars.length≤8:=hy.1.1.1.names
 have sp:=hy.1.sm
 have sm:=Ir hv hy.2.1
 have hd:=hy.2.1.2.1
 have ho:=hy.2.1.2.2.1
 refine tb (dI hy.2.2 14 (by omega)) (fun q hq=>ti (fun _=>?_) (fun _=>ti (fun _=>?_) (fun _=>ti (fun _=>?_) (fun _=>ti (fun _=>?_) (fun _=>ti (fun _=>?_) (fun _=>?_))))))
 ·exact tb (Yr hq.2 _ _ (by omega)) (fun z hz=>L1 sp ⟨hz.1,sm.2⟩)
 ·refine tc (by rw[ce];omega) (L1 sp ⟨sm.1,?_,sm.2.2⟩)
  show(y.2.1.Done++[_]).length≤100
  rw[ah,bo];omega
 ·refine tb (mn hq.2 _ (by simp)) (fun z hz=>tc (by omega) (L1 sp ⟨sm.1,?_,sm.2.2⟩))
  show(List.set _ _ _).length≤100
  rw[a8];omega
 ·exact L2 1502 _ _ _ _ _ hq.2 sp sm (by omega) (by omega)
 ·exact tb (NC hq.2) (fun z hz=>L1 hz.1 sm)
 ·exact L1 sp sm
end Go.Proofs.YtemajhlhgphhjaaGreatDoor.E.TM
