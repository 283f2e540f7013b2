/- What the pure statement needs (3). No condition. -/
import Derived.Test.YtemajhlhgphhjaaGreatDoorM2
import Derived.Test.YtemajhlhgphhjaaGreatDoorTMe1
import Derived.Test.YtemajhlhgphhjaaGreatDoorTMe2
import Derived.Test.YtemajhlhgphhjaaGreatDoorTMe3
import Derived.Test.YtemajhlhgphhjaaGreatDoorTMe4
import Derived.Test.YtemajhlhgphhjaaGreatDoorM1
import Derived.KernelRfl
namespace Go.Proofs.YtemajhlhgphhjaaGreatDoor.E.TM
open Go.Proofs.YtemajhlhgphhjaaGreatDoor.E
set_option linter.unusedVariables false
def pN(b:List Int)(p:Int):Option (Int×Int):=if(cU b p).2.2=true then some ((cU b p).1,(cU b p).2.1)else none
def pT(b:List Int)(p:Int):Option (List Int×Int):=if(ew b p).2.2=true then some ((ew b p).1,(ew b p).2.1)else none
def pZ(b:List Int)(p:Int):Option (Int×Int):=if(dH b p).2.2=true then some ((dH b p).1,(dH b p).2.1)else none
def pV(b:List Int)(p:Int):Option (bL×Int):=(pN b p).bind fun x=>(pZ b x.2).bind fun y=>(pT b y.2).bind fun z=>some (⟨x.1,y.1,z.1⟩,z.2)
def pC(b:List Int)(p:Int):Option (bA×Int):=(pN b p).bind fun x=>(pT b x.2).bind fun y=>(pV b y.2).bind fun z=>some (⟨x.1,y.1,z.1⟩,z.2)
def pL{α:Type}(f:Int→Option (α×Int)):Nat→Int→Option (List α×Int)
 | 0,p=>some ([],p)
 | n+1,p=>(f p).bind fun x=>(pL f n x.2).bind fun y=>some (x.1::y.1,y.2)
theorem dc{b:List Int}(hw:Bytes b){p v q:Int}(h:pN b p=some (v,q)):0≤p∧p<q∧q≤(b.length:Int)∧b.take q.toNat=b.take p.toNat++cz v∧0≤v∧v≤4611686018427387903:=by
 unfold pN at h
 cases e:(cU b p).2.2 with
 | false=>rw[e]at h;cases h
 | true =>
  rw[e,bw rfl]at h
  have h':=aR h
  exact xz b hw p v q (Prod.ext (show(cU b p).1=v from congrArg Prod.fst h') (Prod.ext (show(cU b p).2.1=q from congrArg Prod.snd h') e))
theorem mp{b:List Int}(hw:Bytes b){p q:Int}{t:List Int}(h:pT b p=some (t,q)):0≤p∧p<q∧q≤(b.length:Int)∧b.take q.toNat=b.take p.toNat++dA t∧t.length≤b.length:=by
 unfold pT at h
 cases e:(ew b p).2.2 with
 | false=>rw[e]at h;cases h
 | true =>
  rw[e,bw rfl]at h
  have h':=aR h
  exact YX b hw p q t (Prod.ext (show(ew b p).1=t from congrArg Prod.fst h') (Prod.ext (show(ew b p).2.1=q from congrArg Prod.snd h') e))
theorem xE{b:List Int}(hw:Bytes b){p v q:Int}(h:pZ b p=some (v,q)):0≤p∧p<q∧q≤(b.length:Int)∧b.take q.toNat=b.take p.toNat++eI v:=by
 unfold pZ at h
 cases e:(dH b p).2.2 with
 | false=>rw[e]at h;cases h
 | true =>
  rw[e,bw rfl]at h
  have h':=aR h
  exact Qf b hw p v q (Prod.ext (show(dH b p).1=v from congrArg Prod.fst h') (Prod.ext (show(dH b p).2.1=q from congrArg Prod.snd h') e))
theorem cC{α β:Type}{x:Option α}{f:α→Option β}{y:β}(h:x.bind f=some y):∃ a,x=some a∧f a=some y:=by
 cases x with
 | none=>cases h
 | some a=>exact⟨a,rfl,h⟩
theorem YW{b:List Int}(hw:Bytes b){p q:Int}{t:List Int}(h:pT b p=some (t,q)):Bt t:=by
 obtain⟨h1,h2,h3,h4,h5⟩:=mp hw h
 intro x hx
 have:x∈b.take q.toNat:=by
  rw[h4];unfold dA
  exact aE.2 (.inr (aE.2 (.inr hx)))
 exact hw x (List.mem_of_mem_take this)
theorem d9{b:List Int}(hw:Bytes b){p q:Int}{v:bL}(h:pV b p=some (v,q)):0≤p∧p<q∧q≤(b.length:Int)∧b.take q.toNat=b.take p.toNat++dW v∧v.S.length≤b.length∧Bt v.S:=by
 unfold pV at h
 obtain⟨x,hx,h⟩:=cC h
 obtain⟨y,hy,h⟩:=cC h
 obtain⟨z,hz,h⟩:=cC h
 have h':=aR h
 have e1:=congrArg Prod.fst h'
 have e2:=congrArg Prod.snd h'
 dsimp only at e1 e2
 subst e1;subst e2
 obtain⟨a1,a2,a3,a4,_⟩:=dc hw (show pN b p=some (x.1,x.2)from hx)
 obtain⟨b1,b2,b3,b4⟩:=xE hw (show pZ b x.2=some (y.1,y.2)from hy)
 obtain⟨c1,c2,c3,c4,c5⟩:=mp hw (show pT b y.2=some (z.1,z.2)from hz)
 refine⟨a1,by omega,c3,?_,c5,YW hw (show pT b y.2=some (z.1,z.2)from hz)⟩
 rw[c4,b4,a4]
 unfold dW
 simp only[ai]
theorem fb{b:List Int}(hw:Bytes b){p q:Int}{c:bA}(h:pC b p=some (c,q)):0≤p∧p<q∧q≤(b.length:Int)∧b.take q.toNat=gn (b.take p.toNat) c∧c.Key.length≤b.length∧c.Val.S.length≤b.length∧Bt c.Val.S:=by
 unfold pC at h
 obtain⟨x,hx,h⟩:=cC h
 obtain⟨y,hy,h⟩:=cC h
 obtain⟨z,hz,h⟩:=cC h
 have h':=aR h
 have e1:=congrArg Prod.fst h'
 have e2:=congrArg Prod.snd h'
 dsimp only at e1 e2
 subst e1;subst e2
 obtain⟨a1,a2,a3,a4,_⟩:=dc hw (show pN b p=some (x.1,x.2)from hx)
 obtain⟨b1,b2,b3,b4,b5⟩:=mp hw (show pT b x.2=some (y.1,y.2)from hy)
 obtain⟨c1,c2,c3,c4,c5,c6⟩:=d9 hw (show pV b y.2=some (z.1,z.2)from hz)
 refine⟨a1,by omega,c3,?_,b5,c5,c6⟩
 rw[c4,b4,a4]
 rfl
theorem fY{α:Type}{f:Int→Option (α×Int)}{len:Int}(hf:∀ p x q,f p=some (x,q)→0≤p∧p<q∧q≤len):∀ (n:Nat) (p:Int) (l:List α) (q:Int),pL f n p=some (l,q)→0≤p→p≤len→l.length=n∧p+n≤q∧q≤len:=by
 intro n
 induction n with
 | zero =>
  intro p l q h h0 h1
  have h':=aR h
  have e1:=congrArg Prod.fst h'
  have e2:=congrArg Prod.snd h'
  dsimp only at e1 e2
  subst e1;subst e2
  exact⟨rfl,by simp,h1⟩
 | succ n ih =>
  intro p l q h h0 h1
  unfold pL at h
  obtain⟨x,hx,h⟩:=cC h
  obtain⟨y,hy,h⟩:=cC h
  have h':=aR h
  have e1:=congrArg Prod.fst h'
  have e2:=congrArg Prod.snd h'
  dsimp only at e1 e2
  subst e1;subst e2
  obtain⟨a1,a2,a3⟩:=hf p x.1 x.2 hx
  obtain⟨b1,b2,b3⟩:=ih x.2 y.1 y.2 hy (by omega) a3
  exact⟨by simp[b1],by omega,b3⟩
theorem I5{α:Type}{f:Int→Option (α×Int)}{Q:α→Prop}(hf:∀ p x q,f p=some (x,q)→Q x):∀ (n:Nat) (p:Int) (l:List α) (q:Int),pL f n p=some (l,q)→∀ x∈l,Q x:=by
 intro n
 induction n with
 | zero =>
  intro p l q h x hx
  have e1:=congrArg Prod.fst (aR h)
  dsimp only at e1
  subst e1;cases hx
 | succ n ih =>
  intro p l q h x hx
  unfold pL at h
  obtain⟨u,hu,h⟩:=cC h
  obtain⟨y,hy,h⟩:=cC h
  have e1:=congrArg Prod.fst (aR h)
  dsimp only at e1
  subst e1
  rcases aO.1 hx with hx | hx
  ·subst hx;exact hf p u.1 u.2 hu
  ·exact ih u.2 y.1 y.2 hy x hx
theorem xC{α:Type}{f:Int→Option (α×Int)}{g:List Int→α→List Int}{b:List Int}(hf:∀ p x q,f p=some (x,q)→b.take q.toNat=g (b.take p.toNat) x):∀ (n:Nat) (p:Int) (l:List α) (q:Int),pL f n p=some (l,q)→b.take q.toNat=l.foldl g (b.take p.toNat):=by
 intro n
 induction n with
 | zero =>
  intro p l q h
  have h':=aR h
  have e1:=congrArg Prod.fst h'
  have e2:=congrArg Prod.snd h'
  dsimp only at e1 e2
  subst e1;subst e2
  rfl
 | succ n ih =>
  intro p l q h
  unfold pL at h
  obtain⟨u,hu,h⟩:=cC h
  obtain⟨y,hy,h⟩:=cC h
  have h':=aR h
  have e1:=congrArg Prod.fst h'
  have e2:=congrArg Prod.snd h'
  dsimp only at e1 e2
  subst e1;subst e2
  rw[List.foldl_cons,← hf p u.1 u.2 hu]
  exact ih u.2 y.1 y.2 hy
def pM(b:List Int):Option (bC×Int) :=
 (pN b 0).bind fun n=>(pL (pV b) n.1.toNat n.2).bind fun vs=>(pN b vs.2).bind fun k=>(pL (pC b) k.1.toNat k.2).bind fun cs=>(pN b cs.2).bind fun r=>(pN b r.2).bind fun e =>
 (pL (pN b) 3 e.2).bind fun ds=>(pT b ds.2).bind fun o=>some (⟨⟨vs.1,cs.1,r.1,e.1⟩,ds.1,o.1⟩,o.2)
variable {b:List Int}
def PosI(b:List Int)(p:Int):Prop:=0≤p∧p≤(b.length:Int)
theorem PosI.range{b:List Int}{p:Int}(h:PosI b p)(hb:b.length≤1048576):-9223372036854775808≤p∧p≤9223372036854775807:=by
 have h1:=h.1
 have h2:=h.2
 omega
theorem ga(hb:b.length≤1048576)(hw:Bytes b){p v q:Int}(hp:PosI b p)(h:pN b p=some (v,q)):eW ⟨b,p,true⟩=some (v,⟨b,q,true⟩,()):=by
 unfold pN at h
 cases e:(cU b p).2.2 with
 | false=>rw[e]at h;cases h
 | true =>
  rw[e,bw rfl]at h
  have h':=aR h
  have g1:(cU b p).1=v:=congrArg Prod.fst h'
  have g2:(cU b p).2.1=q:=congrArg Prod.snd h'
  rw[z0,qr b hb hw p (hp.range hb),aa]
  unfold tr3
  dsimp only
  rw[e,g1,g2];rfl
theorem mw(hb:b.length≤1048576)(hw:Bytes b){p:Int}(hp:PosI b p)(h:pN b p=none):eW ⟨b,p,true⟩=some (0,⟨b,p,false⟩,()):=by
 unfold pN at h
 cases e:(cU b p).2.2 with
 | true=>rw[e,bw rfl]at h;cases h
 | false =>
  rw[z0,qr b hb hw p (hp.range hb),aa]
  unfold tr3
  dsimp only
  rw[e];rfl
theorem nU(hb:b.length≤1048576)(hw:Bytes b){p:Int}(hp:PosI b p):eW ⟨b,p,false⟩=some (0,⟨b,p,false⟩,()):=by
 rw[z0,qr b hb hw p (hp.range hb),aa]
 unfold tr3
 dsimp only
 cases (cU b p).2.2 <;> rfl
theorem sT(hb:b.length≤1048576)(hw:Bytes b){p q:Int}{v:List Int}(hp:PosI b p)(h:pT b p=some (v,q)):lg ⟨b,p,true⟩=some (v,⟨b,q,true⟩,()):=by
 unfold pT at h
 cases e:(ew b p).2.2 with
 | false=>rw[e]at h;cases h
 | true =>
  rw[e,bw rfl]at h
  have h':=aR h
  have g1:(ew b p).1=v:=congrArg Prod.fst h'
  have g2:(ew b p).2.1=q:=congrArg Prod.snd h'
  rw[z6,yF b hb hw p (hp.range hb),aa]
  unfold trT
  dsimp only
  rw[e,g1,g2];rfl
theorem ye(hb:b.length≤1048576)(hw:Bytes b){p:Int}(hp:PosI b p)(h:pT b p=none):lg ⟨b,p,true⟩=some ([],⟨b,p,false⟩,()):=by
 unfold pT at h
 cases e:(ew b p).2.2 with
 | true=>rw[e,bw rfl]at h;cases h
 | false =>
  rw[z6,yF b hb hw p (hp.range hb),aa]
  unfold trT
  dsimp only
  rw[e];rfl
theorem ql(hb:b.length≤1048576)(hw:Bytes b){p:Int}(hp:PosI b p):lg ⟨b,p,false⟩=some ([],⟨b,p,false⟩,()):=by
 rw[z6,yF b hb hw p (hp.range hb),aa]
 unfold trT
 dsimp only
 cases (ew b p).2.2 <;> rfl
theorem JL(hb:b.length≤1048576)(hw:Bytes b){p v q:Int}(hp:PosI b p)(h:pZ b p=some (v,q)):qy ⟨b,p,true⟩=some (v,⟨b,q,true⟩,()):=by
 unfold pZ at h
 cases e:(dH b p).2.2 with
 | false=>rw[e]at h;cases h
 | true =>
  rw[e,bw rfl]at h
  have h':=aR h
  have g1:(dH b p).1=v:=congrArg Prod.fst h'
  have g2:(dH b p).2.1=q:=congrArg Prod.snd h'
  rw[zZ,yC b hb hw p (hp.range hb),aa]
  unfold tr3
  dsimp only
  rw[e,g1,g2];rfl
theorem Vy(hb:b.length≤1048576)(hw:Bytes b){p:Int}(hp:PosI b p)(h:pZ b p=none):qy ⟨b,p,true⟩=some (0,⟨b,p,false⟩,()):=by
 unfold pZ at h
 cases e:(dH b p).2.2 with
 | true=>rw[e,bw rfl]at h;cases h
 | false =>
  rw[zZ,yC b hb hw p (hp.range hb),aa]
  unfold tr3
  dsimp only
  rw[e];rfl
theorem JK(hb:b.length≤1048576)(hw:Bytes b){p:Int}(hp:PosI b p):qy ⟨b,p,false⟩=some (0,⟨b,p,false⟩,()):=by
 rw[zZ,yC b hb hw p (hp.range hb),aa]
 unfold tr3
 dsimp only
 cases (dH b p).2.2 <;> rfl
theorem kB(hb:b.length≤1048576)(hw:Bytes b){p v q m:Int}(h:pN b p=some (v,q)):fU ⟨b,p,false⟩ m=if v>m then some (0,⟨b,p,true⟩,())else some (v,⟨b,q,false⟩,()):=by
 unfold pN at h
 cases e:(cU b p).2.2 with
 | false=>rw[e]at h;cases h
 | true =>
  rw[e,bw rfl]at h
  have h':=aR h
  have g1:(cU b p).1=v:=congrArg Prod.fst h'
  have g2:(cU b p).2.1=q:=congrArg Prod.snd h'
  rw[wR,pp b hb hw p,aa]
  unfold tr3
  dsimp only
  rw[e,g1,g2,bz (by simp),bz (by simp)]
  by_cases c:v>m
  ·rw[am c,bw c]
  ·rw[al c,bz c]
theorem lS(hb:b.length≤1048576)(hw:Bytes b){p m:Int}(h:pN b p=none):fU ⟨b,p,false⟩ m=some (0,⟨b,p,true⟩,()):=by
 unfold pN at h
 cases e:(cU b p).2.2 with
 | true=>rw[e,bw rfl]at h;cases h
 | false =>
  rw[wR,pp b hb hw p,aa]
  unfold tr3
  dsimp only
  rw[e];rfl
theorem lR(hb:b.length≤1048576)(hw:Bytes b){p m:Int}:fU ⟨b,p,true⟩ m=some (0,⟨b,p,true⟩,()):=by
 rw[wR,pp b hb hw p,aa];rfl
theorem wj(hb:b.length≤1048576)(hw:Bytes b){p q:Int}{v:List Int}(h:pT b p=some (v,q)):kI ⟨b,p,false⟩=some (v,⟨b,q,false⟩,()):=by
 unfold pT at h
 cases e:(ew b p).2.2 with
 | false=>rw[e]at h;cases h
 | true =>
  rw[e,bw rfl]at h
  have h':=aR h
  have g1:(ew b p).1=v:=congrArg Prod.fst h'
  have g2:(ew b p).2.1=q:=congrArg Prod.snd h'
  rw[wS,wm b hb hw p,aa]
  unfold trT
  dsimp only
  rw[e,g1,g2];rfl
theorem wi(hb:b.length≤1048576)(hw:Bytes b){p:Int}(h:pT b p=none):kI ⟨b,p,false⟩=some ([],⟨b,p,true⟩,()):=by
 unfold pT at h
 cases e:(ew b p).2.2 with
 | true=>rw[e,bw rfl]at h;cases h
 | false =>
  rw[wS,wm b hb hw p,aa]
  unfold trT
  dsimp only
  rw[e];rfl
theorem wh(hb:b.length≤1048576)(hw:Bytes b){p:Int}:kI ⟨b,p,true⟩=some ([],⟨b,p,true⟩,()):=by
 rw[wS,wm b hb hw p,aa];rfl
theorem Hv(hb:b.length≤1048576)(hw:Bytes b){p q:Int}{v:bL}(h:pV b p=some (v,q)):nB ⟨b,p,false⟩=some (v,⟨b,q,false⟩,()):=by
 unfold pV at h
 obtain⟨x,hx,h⟩:=cC h
 obtain⟨y,hy,h⟩:=cC h
 obtain⟨z,hz,h⟩:=cC h
 have hx':=dc hw (show pN b p=some (x.1,x.2)from hx)
 have h':=aR h
 rw[wU,kB hb hw (show pN b p=some (x.1,x.2)from hx),aq,aa]
 dsimp only
 have ey:(dH b x.2).2.2=true∧((dH b x.2).1,(dH b x.2).2.1)=y:=by
  unfold pZ at hy
  cases e:(dH b x.2).2.2 with
  | false=>rw[e]at hy;cases hy
  | true=>rw[e,bw rfl]at hy;exact⟨rfl,aR hy⟩
 rw[rO b hb hw,aa]
 unfold tr3
 dsimp only
 rw[ey.1,bz (by simp),bz (by simp),(show(dH b x.2).1=y.1 from congrArg Prod.fst ey.2),(show(dH b x.2).2.1=y.2 from congrArg Prod.snd ey.2),wj hb hw (show pT b y.2=some (z.1,z.2)from hz),aa]
 dsimp only
 have e1:=congrArg Prod.fst h'
 have e2:=congrArg Prod.snd h'
 dsimp only at e1 e2
 rw[← e1,← e2]
theorem Hu(hb:b.length≤1048576)(hw:Bytes b){p:Int}(h:pV b p=none):∃ v a,nB ⟨b,p,false⟩=some (v,⟨b,a,true⟩,()):=by
 rw[wU]
 cases hx:pN b p with
 | none =>
  rw[lS hb hw hx,aa]
  dsimp only
  rw[rO b hb hw,aa]
  exact⟨_,_,rfl⟩
 | some x =>
  have hx':=dc hw (show pN b p=some (x.1,x.2)from hx)
  rw[kB hb hw (show pN b p=some (x.1,x.2)from hx),aq,aa]
  dsimp only
  rw[rO b hb hw,aa]
  unfold tr3
  dsimp only
  cases e:(dH b x.2).2.2 with
  | false=>exact⟨_,_,rfl⟩
  | true =>
   rw[bz (by simp),bz (by simp)]
   cases hz:pT b (dH b x.2).2.1 with
   | none=>rw[wi hb hw hz,aa];exact⟨_,_,rfl⟩
   | some z =>
    exfalso
    unfold pV at h
    rw[hx,aa]at h
    have hy:pZ b x.2=some ((dH b x.2).1,(dH b x.2).2.1):=by unfold pZ;rw[e,bw rfl]
    rw[hy,aa,hz,aa]at h
    cases h
theorem rK(hb:b.length≤1048576)(hw:Bytes b){p:Int}:∃ v a,nB ⟨b,p,true⟩=some (v,⟨b,a,true⟩,()):=by
 rw[wU,lR hb hw,aa]
 dsimp only
 rw[rO b hb hw,aa]
 exact⟨_,_,rfl⟩
theorem sU(hb:b.length≤1048576)(hw:Bytes b){p q:Int}{v:bL}(hp:PosI b p)(h:pV b p=some (v,q)):ov ⟨b,p,true⟩=some (v,⟨b,q,true⟩,()):=by
 unfold pV at h
 obtain⟨x,hx,h⟩:=cC h
 obtain⟨y,hy,h⟩:=cC h
 obtain⟨z,hz,h⟩:=cC h
 have a:=dc hw (show pN b p=some (x.1,x.2)from hx)
 have c:=xE hw (show pZ b x.2=some (y.1,y.2)from hy)
 have h':=aR h
 have e1:=congrArg Prod.fst h'
 have e2:=congrArg Prod.snd h'
 dsimp only at e1 e2
 rw[z5,ga hb hw hp (show pN b p=some (x.1,x.2)from hx),aa]
 dsimp only
 rw[JL hb hw ⟨by omega,a.2.2.1⟩ (show pZ b x.2=some (y.1,y.2)from hy),aa]
 dsimp only
 rw[sT hb hw ⟨by omega,c.2.2.1⟩ (show pT b y.2=some (z.1,z.2)from hz),aa,← e1,← e2]
theorem JI(hb:b.length≤1048576)(hw:Bytes b){p:Int}(hp:PosI b p):ov ⟨b,p,false⟩=some (⟨0,0,[]⟩,⟨b,p,false⟩,()):=by
 rw[z5,nU hb hw hp,aa]
 dsimp only
 rw[JK hb hw hp,aa]
 dsimp only
 rw[ql hb hw hp];rfl
theorem JJ(hb:b.length≤1048576)(hw:Bytes b){p:Int}(hp:PosI b p)(h:pV b p=none):∃ v a,ov ⟨b,p,true⟩=some (v,⟨b,a,false⟩,())∧PosI b a:=by
 rw[z5]
 cases hx:pN b p with
 | none =>
  rw[mw hb hw hp hx,aa]
  dsimp only
  rw[JK hb hw hp,aa]
  dsimp only
  rw[ql hb hw hp];exact⟨_,_,rfl,hp⟩
 | some x =>
  have a:=dc hw (show pN b p=some (x.1,x.2)from hx)
  have px:PosI b x.2:=⟨by omega,a.2.2.1⟩
  rw[ga hb hw hp (show pN b p=some (x.1,x.2)from hx),aa]
  dsimp only
  cases hy:pZ b x.2 with
  | none =>
   rw[Vy hb hw px hy,aa]
   dsimp only
   rw[ql hb hw px];exact⟨_,_,rfl,px⟩
  | some y =>
   have c:=xE hw (show pZ b x.2=some (y.1,y.2)from hy)
   have py:PosI b y.2:=⟨by omega,c.2.2.1⟩
   rw[JL hb hw px (show pZ b x.2=some (y.1,y.2)from hy),aa]
   dsimp only
   cases hz:pT b y.2 with
   | none=>rw[ye hb hw py hz];exact⟨_,_,rfl,py⟩
   | some z =>
    exfalso
    unfold pV at h
    rw[hx,aa,hy,aa,hz,aa]at h
    cases h
variable {b:List Int}
def sAt(b:List Int)(p:Int)(ok:Bool):bR:=⟨b,p,ok⟩
def iAt(b:List Int)(p:Int)(bad:Bool):bN:=⟨b,p,bad⟩
noncomputable def gu(c:bR)(z m:bC):Option (bC×bR×Unit):=(eW c).bind fun r=>gY r.1 0 r.2.1 z m
noncomputable def ii(c:bR)(z m:bC):Option (bC×bR×Unit) :=
 (eW c).bind fun r3=>(eW r3.2.1).bind fun r4=>gd 0 r4.2.1 z (bC.mk (bJ.mk m.State.Vars m.State.Cells r3.1 r4.1) m.Done m.Out)
noncomputable def ij(c:bR)(m:bC):Option (bC×bR×Unit):=(lg c).bind fun r1=>some ((bC.mk m.State m.Done r1.1),r1.2.1,())
def di(m:bC)(l:List bL):bC:=⟨⟨m.State.Vars++l,m.State.Cells,m.State.Nr,m.State.Err⟩,m.Done,m.Out⟩
def ei(m:bC)(l:List bA):bC:=⟨⟨m.State.Vars,m.State.Cells++l,m.State.Nr,m.State.Err⟩,m.Done,m.Out⟩
def ef(m:bC)(l:List Int):bC:=⟨m.State,m.Done++l,m.Out⟩
theorem FL(m:bC):di m []=m:=by unfold di;rw[aL]
theorem FH(m:bC):ei m []=m:=by unfold ei;rw[aL]
theorem FJ(m:bC):ef m []=m:=by unfold ef;rw[aL]
theorem FK(m:bC)(v:bL)(l:List bL):di (di m [v]) l=di m (v::l):=by unfold di;simp
theorem FG(m:bC)(v:bA)(l:List bA):ei (ei m [v]) l=ei m (v::l):=by unfold ei;simp
theorem FI(m:bC)(v:Int)(l:List Int):ef (ef m [v]) l=ef m (v::l):=by unfold ef;simp
theorem JZ(n i:Int)(h:¬ i<n)(c:bR)(z m:bC):iC n i c z m=gu c z m:=by
 rw[tW,al h];rfl
theorem JX(n i:Int)(p:Int)(z m:bC):iC n i (sAt b p false) z m=gu (sAt b p false) z m:=by
 by_cases h:i<n
 ·rw[tW,am h,bz (by unfold sAt;simp)];rfl
 ·exact JZ n i h _ z m
theorem JY(hb:b.length≤1048576)(hw:Bytes b)(z:bC)(n:Int)(hn:n≤4611686018427387903):∀ (j i:Nat) (p:Int) (m:bC) (l:List bL) (q:Int),pL (pV b) j p=some (l,q)→PosI b p→(i:Int)+j=n→(m.State.Vars.length:Int)≤p →
  iC n i (sAt b p true) z m=gu (sAt b q true) z (di m l):=by
 intro j
 induction j with
 | zero =>
  intro i p m l q h hp hi hm
  have h':=aR h
  have e1:[]=l:=congrArg Prod.fst h'
  have e2:p=q:=congrArg Prod.snd h'
  rw[JZ _ _ (by omega),← e1,← e2,FL]
 | succ j ih =>
  intro i p m l q h hp hi hm
  unfold pL at h
  obtain⟨x,hx,h⟩:=cC h
  obtain⟨y,hy,h⟩:=cC h
  have h':=aR h
  have e1:x.1::y.1=l:=congrArg Prod.fst h'
  have e2:y.2=q:=congrArg Prod.snd h'
  have a:=d9 hw (show pV b p=some (x.1,x.2)from hx)
  have w1:w64 ((i:Int)+1)=((i+1:Nat):Int):=by rw[aw];omega
  have h2:=hp.2
  rw[tW,au,bw (by unfold sAt;rfl)]
  unfold sAt
  rw[sU hb hw hp (show pV b p=some (x.1,x.2)from hx),aa,bw (by rw[ce];omega),w1]
  have:=ih (i+1) x.2 (di m [x.1]) y.1 y.2 hy ⟨by omega,a.2.2.1⟩ (by omega) (by unfold di;dsimp only;rw[ah];simp only[aW,List.length_nil];omega)
  rw[FK,e1,e2]at this
  exact this
theorem V4(hb:b.length≤1048576)(hw:Bytes b)(z:bC)(n:Int)(hn:n≤4611686018427387903):∀ (j i:Nat) (p:Int) (m:bC),pL (pV b) j p=none→PosI b p→(i:Int)+j=n→(m.State.Vars.length:Int)≤p →
  ∃ a m',iC n i (sAt b p true) z m=gu (sAt b a false) z m'∧PosI b a∧m'.Done=m.Done:=by
 intro j
 induction j with
 | zero=>intro i p m h;cases h
 | succ j ih =>
  intro i p m h hp hi hm
  have w1:w64 ((i:Int)+1)=((i+1:Nat):Int):=by rw[aw];omega
  have h2:=hp.2
  rw[tW,au,bw (by unfold sAt;rfl)]
  unfold sAt
  cases hx:pV b p with
  | none =>
   obtain⟨v,a,e,ha⟩:=JJ hb hw hp hx
   rw[e,aa,bw (by rw[ce];omega)]
   exact⟨a,_,JX n _ a z _,ha,rfl⟩
  | some x =>
   have a:=d9 hw (show pV b p=some (x.1,x.2)from hx)
   rw[sU hb hw hp (show pV b p=some (x.1,x.2)from hx),aa,bw (by rw[ce];omega),w1]
   refine ih (i+1) x.2 (di m [x.1]) ?_ ⟨by omega,a.2.2.1⟩ (by omega) (by unfold di;dsimp only;rw[ah];simp only[aW,List.length_nil];omega)
   unfold pL at h
   rw[hx,aa]at h
   cases hy:pL (pV b) j x.2 with
   | none=>rfl
   | some y=>rw[hy,aa]at h;cases h
theorem tg(n i:Int)(h:¬ i<n)(c:bR)(z m:bC):gY n i c z m=ii c z m:=by
 rw[tX,al h];rfl
theorem yG(n i:Int)(p:Int)(z m:bC):gY n i (sAt b p false) z m=ii (sAt b p false) z m:=by
 by_cases h:i<n
 ·rw[tX,am h,bz (by unfold sAt;simp)];rfl
 ·exact tg n i h _ z m
theorem Ux{p q:Int}{c:bA}(h:pC b p=some (c,q)):∃ x y z,pN b p=some x∧pT b x.2=some y∧pV b y.2=some z∧c=⟨x.1,y.1,z.1⟩∧q=z.2:=by
 unfold pC at h
 obtain⟨x,hx,h⟩:=cC h
 obtain⟨y,hy,h⟩:=cC h
 obtain⟨z,hz,h⟩:=cC h
 have h':=aR h
 exact⟨x,y,z,hx,hy,hz,(congrArg Prod.fst h').symm,(congrArg Prod.snd h').symm⟩
theorem J1(hb:b.length≤1048576)(hw:Bytes b)(z:bC)(n:Int)(hn:n≤4611686018427387903):∀ (j i:Nat) (p:Int) (m:bC) (l:List bA) (q:Int),pL (pC b) j p=some (l,q)→PosI b p→(i:Int)+j=n→(m.State.Cells.length:Int)≤p →
  gY n i (sAt b p true) z m=ii (sAt b q true) z (ei m l):=by
 intro j
 induction j with
 | zero =>
  intro i p m l q h hp hi hm
  have h':=aR h
  have e1:[]=l:=congrArg Prod.fst h'
  have e2:p=q:=congrArg Prod.snd h'
  rw[tg _ _ (by omega),← e1,← e2,FH]
 | succ j ih =>
  intro i p m l q h hp hi hm
  unfold pL at h
  obtain⟨x,hx,h⟩:=cC h
  obtain⟨y,hy,h⟩:=cC h
  have h':=aR h
  have e1:x.1::y.1=l:=congrArg Prod.fst h'
  have e2:y.2=q:=congrArg Prod.snd h'
  have a:=fb hw (show pC b p=some (x.1,x.2)from hx)
  obtain⟨u,v,w,hu,hv,hz,g1,g2⟩:=Ux (show pC b p=some (x.1,x.2)from hx)
  have a1:=dc hw (show pN b p=some (u.1,u.2)from hu)
  have a2:=mp hw (show pT b u.2=some (v.1,v.2)from hv)
  have w1:w64 ((i:Int)+1)=((i+1:Nat):Int):=by rw[aw];omega
  have h2:=hp.2
  rw[tX,au,bw (by unfold sAt;rfl)]
  unfold sAt
  rw[ga hb hw hp (show pN b p=some (u.1,u.2)from hu),aa]
  dsimp only
  rw[sT hb hw ⟨by omega,a1.2.2.1⟩ (show pT b u.2=some (v.1,v.2)from hv),aa]
  dsimp only
  rw[sU hb hw ⟨by omega,a2.2.2.1⟩ (show pV b v.2=some (w.1,w.2)from hz),aa,bw (by rw[ce];omega),w1,← g1,← g2]
  have:=ih (i+1) x.2 (ei m [x.1]) y.1 y.2 hy ⟨by omega,a.2.2.1⟩ (by omega) (by unfold ei;dsimp only;rw[ah];simp only[aW,List.length_nil];omega)
  rw[FG,e1,e2]at this
  exact this
theorem V5(hb:b.length≤1048576)(hw:Bytes b)(z:bC)(n:Int)(hn:n≤4611686018427387903):∀ (j i:Nat) (p:Int) (m:bC),pL (pC b) j p=none→PosI b p→(i:Int)+j=n→(m.State.Cells.length:Int)≤p →
  ∃ a m',gY n i (sAt b p true) z m=ii (sAt b a false) z m'∧PosI b a∧m'.Done=m.Done:=by
 intro j
 induction j with
 | zero=>intro i p m h;cases h
 | succ j ih =>
  intro i p m h hp hi hm
  have w1:w64 ((i:Int)+1)=((i+1:Nat):Int):=by rw[aw];omega
  have h2:=hp.2
  have hr:m.State.Cells.length+1≤room:=by rw[ce];omega
  rw[tX,au,bw (by unfold sAt;rfl)]
  unfold sAt
  simp only[bw hr]
  cases hu:pN b p with
  | none =>
   rw[mw hb hw hp hu,aa]
   dsimp only
   rw[ql hb hw hp,aa]
   dsimp only
   rw[JI hb hw hp,aa]
   exact⟨p,_,yG n _ p z _,hp,rfl⟩
  | some u =>
   have a1:=dc hw (show pN b p=some (u.1,u.2)from hu)
   have pu:PosI b u.2:=⟨by omega,a1.2.2.1⟩
   rw[ga hb hw hp (show pN b p=some (u.1,u.2)from hu),aa]
   dsimp only
   cases hv:pT b u.2 with
   | none =>
    rw[ye hb hw pu hv,aa]
    dsimp only
    rw[JI hb hw pu,aa]
    exact⟨u.2,_,yG n _ u.2 z _,pu,rfl⟩
   | some v =>
    have a2:=mp hw (show pT b u.2=some (v.1,v.2)from hv)
    have pv:PosI b v.2:=⟨by omega,a2.2.2.1⟩
    rw[sT hb hw pu (show pT b u.2=some (v.1,v.2)from hv),aa]
    dsimp only
    cases hz:pV b v.2 with
    | none =>
     obtain⟨v',a,e,ha⟩:=JJ hb hw pv hz
     rw[e,aa]
     exact⟨a,_,yG n _ a z _,ha,rfl⟩
    | some w =>
     have a3:=d9 hw (show pV b v.2=some (w.1,w.2)from hz)
     rw[sU hb hw pv (show pV b v.2=some (w.1,w.2)from hz),aa,w1]
     refine ih (i+1) w.2 (ei m [⟨u.1,v.1,w.1⟩]) ?_ ⟨by omega,a3.2.2.1⟩ (by omega) (by unfold ei;dsimp only;rw[ah];simp only[aW,List.length_nil];omega)
     have hx:pC b p=some (⟨u.1,v.1,w.1⟩,w.2):=by unfold pC;rw[hu,aa,hv,aa,hz,aa]
     unfold pL at h
     rw[hx,aa]at h
     cases hy:pL (pC b) j w.2 with
     | none=>rfl
     | some y=>rw[hy,aa]at h;cases h
theorem J2(hb:b.length≤1048576)(hw:Bytes b)(z:bC):∀ (j i:Nat) (p:Int) (m:bC) (l:List Int) (q:Int),pL (pN b) j p=some (l,q)→PosI b p→i+j=3→m.Done.length≤i →
  gd (i:Int) (sAt b p true) z m=ij (sAt b q true) (ef m l):=by
 intro j
 induction j with
 | zero =>
  intro i p m l q h hp hi hm
  have h':=aR h
  have e1:[]=l:=congrArg Prod.fst h'
  have e2:p=q:=congrArg Prod.snd h'
  rw[qz,av,← e1,← e2,FJ];rfl
 | succ j ih =>
  intro i p m l q h hp hi hm
  unfold pL at h
  obtain⟨x,hx,h⟩:=cC h
  obtain⟨y,hy,h⟩:=cC h
  have h':=aR h
  have e1:x.1::y.1=l:=congrArg Prod.fst h'
  have e2:y.2=q:=congrArg Prod.snd h'
  have a:=dc hw (show pN b p=some (x.1,x.2)from hx)
  have w1:w64 ((i:Int)+1)=((i+1:Nat):Int):=by rw[aw];omega
  rw[qz,au]
  unfold sAt
  rw[ga hb hw hp (show pN b p=some (x.1,x.2)from hx),aa,bw (by rw[ce];omega),w1]
  have:=ih (i+1) x.2 (ef m [x.1]) y.1 y.2 hy ⟨by omega,a.2.2.1⟩ (by omega) (by unfold ef;dsimp only;rw[ah];simp only[aW,List.length_nil];omega)
  rw[FI,e1,e2]at this
  exact this
theorem yH(hb:b.length≤1048576)(hw:Bytes b)(z:bC):∀ (j i:Nat) (p:Int) (m:bC),PosI b p→i+j=3→m.Done.length≤i→∃ m',gd (i:Int) (sAt b p false) z m=ij (sAt b p false) m':=by
 intro j
 induction j with
 | zero =>
  intro i p m hp hi hm
  rw[qz,av];exact⟨m,rfl⟩
 | succ j ih =>
  intro i p m hp hi hm
  have w1:w64 ((i:Int)+1)=((i+1:Nat):Int):=by rw[aw];omega
  rw[qz,au]
  unfold sAt
  rw[nU hb hw hp,aa,bw (by rw[ce];omega),w1]
  exact ih (i+1) p (ef m [0]) hp (by omega) (by unfold ef;dsimp only;rw[ah];simp only[aW,List.length_nil];omega)
theorem V6(hb:b.length≤1048576)(hw:Bytes b)(z:bC):∀ (j i:Nat) (p:Int) (m:bC),pL (pN b) j p=none→PosI b p→i+j=3→m.Done.length≤i→∃ a m',gd (i:Int) (sAt b p true) z m=ij (sAt b a false) m'∧PosI b a:=by
 intro j
 induction j with
 | zero=>intro i p m h;cases h
 | succ j ih =>
  intro i p m h hp hi hm
  have w1:w64 ((i:Int)+1)=((i+1:Nat):Int):=by rw[aw];omega
  rw[qz,au]
  unfold sAt
  have hlen:∀ v:Int,(ef m [v]).Done.length≤i+1:=fun v=>by unfold ef;dsimp only;rw[ah];simp only[aW,List.length_nil];omega
  cases hx:pN b p with
  | none =>
   rw[mw hb hw hp hx,aa,bw (by rw[ce];omega),w1]
   obtain⟨m',e⟩:=yH hb hw z j (i+1) p (ef m [0]) hp (by omega) (hlen 0)
   exact⟨p,m',e,hp⟩
  | some x =>
   have a:=dc hw (show pN b p=some (x.1,x.2)from hx)
   rw[ga hb hw hp (show pN b p=some (x.1,x.2)from hx),aa,bw (by rw[ce];omega),w1]
   refine ih (i+1) x.2 (ef m [x.1]) ?_ ⟨by omega,a.2.2.1⟩ (by omega) (hlen _)
   unfold pL at h
   rw[hx,aa]at h
   cases hy:pL (pN b) j x.2 with
   | none=>rfl
   | some y=>rw[hy,aa]at h;cases h
def na(b:List Int)(r:Option (bC×bR×Unit)):Prop:=∃ m a,r=some (m,sAt b a false,())
theorem vJ(hb:b.length≤1048576)(hw:Bytes b){p:Int}(hp:PosI b p)(m:bC):na b (ij (sAt b p false) m):=by
 unfold ij sAt
 rw[ql hb hw hp];exact⟨_,_,rfl⟩
theorem vH(hb:b.length≤1048576)(hw:Bytes b){p:Int}(hp:PosI b p)(z m:bC)(hm:m.Done=[]):na b (ii (sAt b p false) z m):=by
 unfold ii sAt
 rw[nU hb hw hp,aa]
 dsimp only
 rw[nU hb hw hp,aa]
 dsimp only
 obtain⟨m',e⟩:=yH hb hw z 3 0 p ⟨⟨m.State.Vars,m.State.Cells,0,0⟩,m.Done,m.Out⟩ hp (by omega) (by dsimp only;rw[hm];simp)
 have e':gd 0 ⟨b,p,false⟩ z ⟨⟨m.State.Vars,m.State.Cells,0,0⟩,m.Done,m.Out⟩=ij (sAt b p false) m':=e
 rw[e'];exact vJ hb hw hp m'
theorem GD(hb:b.length≤1048576)(hw:Bytes b){p:Int}(hp:PosI b p)(z m:bC)(hm:m.Done=[]):na b (gu (sAt b p false) z m):=by
 have e:gu (sAt b p false) z m=ii (sAt b p false) z m:=by
  unfold gu
  have e1:eW (sAt b p false)=some (0,sAt b p false,()):=nU hb hw hp
  rw[e1,aa]
  exact tg 0 0 (by omega) _ z m
 rw[e];exact vH hb hw hp z m hm
theorem JH(hb:b.length≤1048576)(hw:Bytes b){m:bC}{q:Int}(h:pM b=some (m,q)):tV ⟨b,0,true⟩=some (m,⟨b,q,true⟩,()):=by
 unfold pM at h
 obtain⟨n,hn,h⟩:=cC h
 obtain⟨vs,hvs,h⟩:=cC h
 obtain⟨k,hk,h⟩:=cC h
 obtain⟨cs,hcs,h⟩:=cC h
 obtain⟨r,hr,h⟩:=cC h
 obtain⟨e,he,h⟩:=cC h
 obtain⟨ds,hds,h⟩:=cC h
 obtain⟨o,ho,h⟩:=cC h
 have h':=aR h
 have e1:(⟨⟨vs.1,cs.1,r.1,e.1⟩,ds.1,o.1⟩:bC)=m:=congrArg Prod.fst h'
 have e2:o.2=q:=congrArg Prod.snd h'
 have p0:PosI b 0:=⟨by omega,by omega⟩
 have an:=dc hw (show pN b 0=some (n.1,n.2)from hn)
 have pn:PosI b n.2:=⟨by omega,an.2.2.1⟩
 obtain⟨v1,v2,v3⟩:=fY (len:=(b.length:Int)) (fun p x q h=>⟨(d9 hw h).1,(d9 hw h).2.1,(d9 hw h).2.2.1⟩) _ _ _ _ (show pL (pV b) n.1.toNat n.2=some (vs.1,vs.2)from hvs) pn.1 pn.2
 have pv:PosI b vs.2:=⟨by have:=pn.1;omega,v3⟩
 have ak:=dc hw (show pN b vs.2=some (k.1,k.2)from hk)
 have pk:PosI b k.2:=⟨by omega,ak.2.2.1⟩
 obtain⟨c1,c2,c3⟩:=fY (len:=(b.length:Int)) (fun p x q h=>⟨(fb hw h).1,(fb hw h).2.1,(fb hw h).2.2.1⟩) _ _ _ _ (show pL (pC b) k.1.toNat k.2=some (cs.1,cs.2)from hcs) pk.1 pk.2
 have pc:PosI b cs.2:=⟨by have:=pk.1;omega,c3⟩
 have ar:=dc hw (show pN b cs.2=some (r.1,r.2)from hr)
 have pr:PosI b r.2:=⟨by omega,ar.2.2.1⟩
 have ae:=dc hw (show pN b r.2=some (e.1,e.2)from he)
 have pe:PosI b e.2:=⟨by omega,ae.2.2.1⟩
 obtain⟨d1,d2,d3⟩:=fY (len:=(b.length:Int)) (fun p x q h=>⟨(dc hw h).1,(dc hw h).2.1,(dc hw h).2.2.1⟩) _ _ _ _ (show pL (pN b) 3 e.2=some (ds.1,ds.2)from hds) pe.1 pe.2
 have pd:PosI b ds.2:=⟨by have:=pe.1;omega,d3⟩
 rw[KE,ga hb hw p0 (show pN b 0=some (n.1,n.2)from hn),aa]
 dsimp only
 have f1:=JY hb hw cQ n.1 an.2.2.2.2.2 n.1.toNat 0 n.2 ⟨cG,[],[]⟩ vs.1 vs.2 hvs pn (by omega) (by have:=pn.1;exact this)
 have f1':iC n.1 0 ⟨b,n.2,true⟩ cQ ⟨cG,[],[]⟩=_:=f1
 rw[f1']
 unfold gu sAt
 rw[ga hb hw pv (show pN b vs.2=some (k.1,k.2)from hk),aa]
 dsimp only
 have f2:=J1 hb hw cQ k.1 ak.2.2.2.2.2 k.1.toNat 0 k.2 (di ⟨cG,[],[]⟩ vs.1) cs.1 cs.2 hcs pk (by omega) (by have:=pk.1;exact this)
 have f2':gY k.1 0 ⟨b,k.2,true⟩ cQ (di ⟨cG,[],[]⟩ vs.1)=_:=f2
 rw[f2']
 unfold ii sAt
 rw[ga hb hw pc (show pN b cs.2=some (r.1,r.2)from hr),aa]
 dsimp only
 rw[ga hb hw pr (show pN b r.2=some (e.1,e.2)from he),aa]
 dsimp only
 have f3:=J2 hb hw cQ 3 0 e.2 ⟨⟨vs.1,cs.1,r.1,e.1⟩,[],[]⟩ ds.1 ds.2 hds pe (by omega) (by simp)
 have f3':gd 0 ⟨b,e.2,true⟩ cQ ⟨⟨vs.1,cs.1,r.1,e.1⟩,[],[]⟩=_:=f3
 refine Eq.trans f3' ?_
 unfold ij sAt
 rw[sT hb hw pd (show pT b ds.2=some (o.1,o.2)from ho),aa,← e1,← e2]
 rfl
theorem JG(hb:b.length≤1048576)(hw:Bytes b)(h:pM b=none):na b (tV ⟨b,0,true⟩):=by
 unfold pM at h
 have p0:PosI b 0:=⟨by omega,by omega⟩
 rw[KE]
 cases hn:pN b 0 with
 | none =>
  rw[mw hb hw p0 hn,aa]
  dsimp only
  have e:iC 0 0 ⟨b,0,false⟩ cQ ⟨cG,[],[]⟩=gu (sAt b 0 false) cQ ⟨cG,[],[]⟩:=JX 0 0 0 _ _
  rw[e];exact GD hb hw p0 _ _ rfl
 | some n =>
  rw[hn,aa]at h
  have an:=dc hw (show pN b 0=some (n.1,n.2)from hn)
  have pn:PosI b n.2:=⟨by omega,an.2.2.1⟩
  rw[ga hb hw p0 (show pN b 0=some (n.1,n.2)from hn),aa]
  dsimp only
  cases hvs:pL (pV b) n.1.toNat n.2 with
  | none =>
   obtain⟨a,m',e,ha,hd⟩:=V4 hb hw cQ n.1 an.2.2.2.2.2 n.1.toNat 0 n.2 ⟨cG,[],[]⟩ hvs pn (by omega) (by have:=pn.1;exact this)
   have e':iC n.1 0 ⟨b,n.2,true⟩ cQ ⟨cG,[],[]⟩=gu (sAt b a false) cQ m':=e
   rw[e'];exact GD hb hw ha _ _ hd
  | some vs =>
   rw[hvs,aa]at h
   obtain⟨v1,v2,v3⟩:=fY (len:=(b.length:Int)) (fun p x q h=>⟨(d9 hw h).1,(d9 hw h).2.1,(d9 hw h).2.2.1⟩) _ _ _ _ (show pL (pV b) n.1.toNat n.2=some (vs.1,vs.2)from hvs) pn.1 pn.2
   have pv:PosI b vs.2:=⟨by have:=pn.1;omega,v3⟩
   have f1:=JY hb hw cQ n.1 an.2.2.2.2.2 n.1.toNat 0 n.2 ⟨cG,[],[]⟩ vs.1 vs.2 hvs pn (by omega) (by have:=pn.1;exact this)
   have f1':iC n.1 0 ⟨b,n.2,true⟩ cQ ⟨cG,[],[]⟩=_:=f1
   rw[f1']
   cases hk:pN b vs.2 with
   | none =>
    have e:gu (sAt b vs.2 true) cQ (di ⟨cG,[],[]⟩ vs.1)=ii (sAt b vs.2 false) cQ (di ⟨cG,[],[]⟩ vs.1):=by
     unfold gu
     have e1:eW (sAt b vs.2 true)=some (0,sAt b vs.2 false,()):=mw hb hw pv hk
     rw[e1,aa]
     exact tg 0 0 (by omega) _ _ _
    rw[e];exact vH hb hw pv _ _ rfl
   | some k =>
    rw[hk,aa]at h
    have ak:=dc hw (show pN b vs.2=some (k.1,k.2)from hk)
    have pk:PosI b k.2:=⟨by omega,ak.2.2.1⟩
    unfold gu sAt
    rw[ga hb hw pv (show pN b vs.2=some (k.1,k.2)from hk),aa]
    dsimp only
    cases hcs:pL (pC b) k.1.toNat k.2 with
    | none =>
     obtain⟨a,m',e,ha,hd⟩:=V5 hb hw cQ k.1 ak.2.2.2.2.2 k.1.toNat 0 k.2 (di ⟨cG,[],[]⟩ vs.1) hcs pk (by omega) (by have:=pk.1;exact this)
     have e':gY k.1 0 ⟨b,k.2,true⟩ cQ (di ⟨cG,[],[]⟩ vs.1)=ii (sAt b a false) cQ m':=e
     rw[e'];exact vH hb hw ha _ _ hd
    | some cs =>
     rw[hcs,aa]at h
     obtain⟨c1,c2,c3⟩:=fY (len:=(b.length:Int)) (fun p x q h=>⟨(fb hw h).1,(fb hw h).2.1,(fb hw h).2.2.1⟩) _ _ _ _ (show pL (pC b) k.1.toNat k.2=some (cs.1,cs.2)from hcs) pk.1 pk.2
     have pc:PosI b cs.2:=⟨by have:=pk.1;omega,c3⟩
     have f2:=J1 hb hw cQ k.1 ak.2.2.2.2.2 k.1.toNat 0 k.2 (di ⟨cG,[],[]⟩ vs.1) cs.1 cs.2 hcs pk (by omega) (by have:=pk.1;exact this)
     have f2':gY k.1 0 ⟨b,k.2,true⟩ cQ (di ⟨cG,[],[]⟩ vs.1)=_:=f2
     rw[f2']
     have l3:∀ (a:Int) (m:bC),PosI b a→m.Done=[]→na b (gd 0 ⟨b,a,false⟩ cQ m):=fun a m ha hm=>by
      obtain⟨m',e⟩:=yH hb hw cQ 3 0 a m ha (by omega) (by rw[hm];simp)
      have e':gd 0 ⟨b,a,false⟩ cQ m=ij (sAt b a false) m':=e
      rw[e'];exact vJ hb hw ha m'
     unfold ii sAt
     cases hr:pN b cs.2 with
     | none =>
      rw[mw hb hw pc hr,aa]
      dsimp only
      rw[nU hb hw pc,aa]
      exact l3 _ _ pc rfl
     | some r =>
      rw[hr,aa]at h
      have ar:=dc hw (show pN b cs.2=some (r.1,r.2)from hr)
      have pr:PosI b r.2:=⟨by omega,ar.2.2.1⟩
      rw[ga hb hw pc (show pN b cs.2=some (r.1,r.2)from hr),aa]
      dsimp only
      cases he:pN b r.2 with
      | none =>
       rw[mw hb hw pr he,aa]
       exact l3 _ _ pr rfl
      | some e =>
       rw[he,aa]at h
       have ae:=dc hw (show pN b r.2=some (e.1,e.2)from he)
       have pe:PosI b e.2:=⟨by omega,ae.2.2.1⟩
       rw[ga hb hw pr (show pN b r.2=some (e.1,e.2)from he),aa]
       dsimp only
       cases hds:pL (pN b) 3 e.2 with
       | none =>
        obtain⟨a,m',g,ha⟩:=V6 hb hw cQ 3 0 e.2 ⟨⟨vs.1,cs.1,r.1,e.1⟩,[],[]⟩ hds pe (by omega) (by simp)
        have g':gd 0 ⟨b,e.2,true⟩ cQ ⟨⟨vs.1,cs.1,r.1,e.1⟩,[],[]⟩=ij (sAt b a false) m':=g
        have g2:=vJ hb hw ha m'
        rw[← g']at g2;exact g2
       | some ds =>
        rw[hds,aa]at h
        obtain⟨d1,d2,d3⟩:=fY (len:=(b.length:Int)) (fun p x q h=>⟨(dc hw h).1,(dc hw h).2.1,(dc hw h).2.2.1⟩) _ _ _ _ (show pL (pN b) 3 e.2=some (ds.1,ds.2)from hds) pe.1 pe.2
        have pd:PosI b ds.2:=⟨by have:=pe.1;omega,d3⟩
        have f3:=J2 hb hw cQ 3 0 e.2 ⟨⟨vs.1,cs.1,r.1,e.1⟩,[],[]⟩ ds.1 ds.2 hds pe (by omega) (by simp)
        have f3':gd 0 ⟨b,e.2,true⟩ cQ ⟨⟨vs.1,cs.1,r.1,e.1⟩,[],[]⟩=_:=f3
        have g2:na b (ij (sAt b ds.2 true) (ef ⟨⟨vs.1,cs.1,r.1,e.1⟩,[],[]⟩ ds.1)):=by
         cases ho:pT b ds.2 with
         | none=>unfold ij sAt;rw[ye hb hw pd ho];exact⟨_,_,rfl⟩
         | some o=>rw[ho,aa]at h;cases h
        rw[← f3']at g2;exact g2
variable {b:List Int}
noncomputable def o4(b:List Int)(c:bN)(P:bG)(z m:bC):Option (bC×Bool×Unit):=(fU c 40).bind fun r1=>kD b r1.1 0 P z m r1.2.1
noncomputable def o5(b:List Int)(c:bN)(P:bG)(z m:bC):Option (bC×Bool×Unit) :=
 (fU c 4611686018427387903).bind fun r3=>(fU r3.2.1 4611686018427387903).bind fun r4=>lW b 0 P z (bC.mk (bJ.mk m.State.Vars m.State.Cells r3.1 r4.1) m.Done m.Out) r4.2.1
noncomputable def o6(b:List Int)(c:bN)(P:bG)(z m:bC):Option (bC×Bool×Unit) :=
 (kI c).bind fun(r1:(List Int)×bN×Unit) =>
  if r1.2.1.bad=true then
   some ((bC.mk cG [] []),false,())
  else
   if(!(decide (r1.2.1.at_=(List.length b:Int))))=true then
    some ((bC.mk cG [] []),false,())
   else
    (lX P (bC.mk m.State m.Done r1.1)).bind fun(r2:Bool×Unit) =>
    if(!r2.1)=true then
     some ((bC.mk cG [] []),false,())
    else
     some ((bC.mk m.State m.Done r1.1),true,())
theorem HA(n i:Int)(h:¬ i<n)(c:bN)(P:bG)(z m:bC):lV b n i P z m c=o4 b c P z m:=by
 rw[wu,al h];rfl
theorem wt(n i:Int)(h:¬ i<n)(c:bN)(P:bG)(z m:bC):kD b n i P z m c=o5 b c P z m:=by
 rw[wv,al h];rfl
theorem HC(i:Int)(h:¬ i<3)(c:bN)(P:bG)(z m:bC):lW b i P z m c=o6 b c P z m:=by
 rw[ww,al h];rfl
def fF:bC:=⟨cG,[],[]⟩
theorem NM(hb:b.length≤1048576)(hw:Bytes b)(p:Int)(P:bG)(z m:bC):o6 b (iAt b p true) P z m=some (fF,false,()):=by
 unfold o6 iAt
 rw[wh hb hw];rfl
theorem rQ(hb:b.length≤1048576)(hw:Bytes b)(P:bG)(z:bC):∀ (j i:Nat) (p:Int) (m:bC),i+j=3→m.Done.length≤i→lW b (i:Int) P z m (iAt b p true)=some (fF,false,()):=by
 intro j
 induction j with
 | zero=>intro i p m hi hm;rw[HC _ (by omega)];exact NM hb hw p P z m
 | succ j ih =>
  intro i p m hi hm
  have w1:w64 ((i:Int)+1)=((i+1:Nat):Int):=by rw[aw];omega
  rw[ww,au]
  unfold iAt
  rw[lR hb hw,aa,bw (by rw[ce];omega),w1]
  exact ih (i+1) p (ef m [0]) (by omega) (by unfold ef;dsimp only;rw[ah];simp only[aW,List.length_nil];omega)
theorem GC(hb:b.length≤1048576)(hw:Bytes b)(p:Int)(P:bG)(z m:bC)(hm:m.Done=[]):o5 b (iAt b p true) P z m=some (fF,false,()):=by
 unfold o5 iAt
 rw[lR hb hw,aa]
 dsimp only
 rw[lR hb hw,aa]
 exact rQ hb hw P z 3 0 p _ (by omega) (by dsimp only;rw[hm];simp)
theorem pq(hb:b.length≤1048576)(hw:Bytes b)(P:bG)(z:bC)(n:Int)(hn:n≤40):∀ (j i:Nat) (p:Int) (m:bC),(i:Int)+j=n→m.State.Cells.length≤i→m.Done=[]→kD b n (i:Int) P z m (iAt b p true)=some (fF,false,()):=by
 intro j
 induction j with
 | zero=>intro i p m hi hm hd;rw[wt _ _ (by omega)];exact GC hb hw p P z m hd
 | succ j ih =>
  intro i p m hi hm hd
  have w1:w64 ((i:Int)+1)=((i+1:Nat):Int):=by rw[aw];omega
  rw[wv,au]
  unfold iAt
  rw[lR hb hw,aa]
  dsimp only
  rw[wh hb hw,aa]
  dsimp only
  obtain⟨v,a,e⟩:=rK hb hw (b:=b) (p:=p)
  rw[e,aa,bw (by rw[ce];omega),w1]
  exact ih (i+1) a (ei m [⟨0,[],v⟩]) (by omega) (by unfold ei;dsimp only;rw[ah];simp only[aW,List.length_nil];omega) hd
theorem NL(hb:b.length≤1048576)(hw:Bytes b)(p:Int)(P:bG)(z m:bC)(hm:m.Done=[]):o4 b (iAt b p true) P z m=some (fF,false,()):=by
 unfold o4 iAt
 rw[lR hb hw,aa]
 dsimp only
 rw[wt 0 0 (by omega)]
 exact GC hb hw p P z m hm
theorem wo(hb:b.length≤1048576)(hw:Bytes b)(P:bG)(z:bC)(n:Int)(hn:n≤40):∀ (j i:Nat) (p:Int) (m:bC),(i:Int)+j=n→m.State.Vars.length≤i→m.Done=[]→lV b n (i:Int) P z m (iAt b p true)=some (fF,false,()):=by
 intro j
 induction j with
 | zero=>intro i p m hi hm hd;rw[HA _ _ (by omega)];exact NL hb hw p P z m hd
 | succ j ih =>
  intro i p m hi hm hd
  have w1:w64 ((i:Int)+1)=((i+1:Nat):Int):=by rw[aw];omega
  rw[wu,au]
  unfold iAt
  obtain⟨v,a,e⟩:=rK hb hw (b:=b) (p:=p)
  rw[e,aa,bw (by rw[ce];omega),w1]
  exact ih (i+1) a (di m [v]) (by omega) (by unfold di;dsimp only;rw[ah];simp only[aW,List.length_nil];omega) hd
theorem O9(hb:b.length≤1048576)(hw:Bytes b)(P:bG)(z:bC)(n:Int)(hn:n≤40):∀ (j i:Nat) (p:Int) (m:bC),(i:Int)+j=n→m.State.Vars.length≤i→m.Done=[] →
  lV b n (i:Int) P z m (iAt b p false)=match pL (pV b) j p with
   | some (l,q)=>o4 b (iAt b q false) P z (di m l)
   | none=>some (fF,false,()):=by
 intro j
 induction j with
 | zero =>
  intro i p m hi hm hd
  rw[HA _ _ (by omega)]
  unfold pL
  dsimp only
  rw[FL]
 | succ j ih =>
  intro i p m hi hm hd
  have w1:w64 ((i:Int)+1)=((i+1:Nat):Int):=by rw[aw];omega
  have hlen:∀ v:bL,(di m [v]).State.Vars.length≤i+1:=fun v=>by unfold di;dsimp only;rw[ah];simp only[aW,List.length_nil];omega
  rw[wu,au]
  unfold iAt pL
  cases hx:pV b p with
  | none =>
   obtain⟨v,a,e⟩:=Hu hb hw hx
   rw[e,aa,bw (by rw[ce];omega),w1]
   exact wo hb hw P z n hn j (i+1) a (di m [v]) (by omega) (hlen v) hd
  | some x =>
   rw[Hv hb hw (show pV b p=some (x.1,x.2)from hx),aa,bw (by rw[ce];omega),w1,aa]
   refine(ih (i+1) x.2 (di m [x.1]) (by omega) (hlen _) hd).trans ?_
   cases pL (pV b) j x.2 with
   | none=>rfl
   | some y=>rw[aa];dsimp only;rw[FK];rfl
theorem Pa(hb:b.length≤1048576)(hw:Bytes b)(P:bG)(z:bC)(n:Int)(hn:n≤40):∀ (j i:Nat) (p:Int) (m:bC),(i:Int)+j=n→m.State.Cells.length≤i→m.Done=[] →
  kD b n (i:Int) P z m (iAt b p false)=match pL (pC b) j p with
   | some (l,q)=>o5 b (iAt b q false) P z (ei m l)
   | none=>some (fF,false,()):=by
 intro j
 induction j with
 | zero =>
  intro i p m hi hm hd
  rw[wt _ _ (by omega)]
  unfold pL
  dsimp only
  rw[FH]
 | succ j ih =>
  intro i p m hi hm hd
  have w1:w64 ((i:Int)+1)=((i+1:Nat):Int):=by rw[aw];omega
  have hlen:∀ v:bA,(ei m [v]).State.Cells.length≤i+1:=fun v=>by unfold ei;dsimp only;rw[ah];simp only[aW,List.length_nil];omega
  have hr:m.State.Cells.length+1≤room:=by rw[ce];omega
  have hpC:pC b p=(pN b p).bind fun x=>(pT b x.2).bind fun y=>(pV b y.2).bind fun z=>some (⟨x.1,y.1,z.1⟩,z.2):=rfl
  rw[wv,au]
  unfold iAt pL
  simp only[bw hr]
  rw[hpC]
  cases hu:pN b p with
  | none =>
   rw[lS hb hw hu,aa]
   dsimp only
   rw[wh hb hw,aa]
   dsimp only
   obtain⟨v,a,e⟩:=rK hb hw (b:=b) (p:=p)
   rw[e,aa,w1]
   exact pq hb hw P z n hn j (i+1) a (ei m [⟨0,[],v⟩]) (by omega) (hlen _) hd
  | some u =>
   have a1:=dc hw (show pN b p=some (u.1,u.2)from hu)
   rw[kB hb hw (show pN b p=some (u.1,u.2)from hu),aq,aa,aa]
   dsimp only
   cases hv:pT b u.2 with
   | none =>
    rw[wi hb hw hv,aa]
    dsimp only
    obtain⟨v,a,e⟩:=rK hb hw (b:=b) (p:=u.2)
    rw[e,aa,w1]
    exact pq hb hw P z n hn j (i+1) a (ei m [⟨u.1,[],v⟩]) (by omega) (hlen _) hd
   | some v =>
    rw[wj hb hw (show pT b u.2=some (v.1,v.2)from hv),aa,aa]
    dsimp only
    cases hz:pV b v.2 with
    | none =>
     obtain⟨v',a,e⟩:=Hu hb hw hz
     rw[e,aa,w1]
     exact pq hb hw P z n hn j (i+1) a (ei m [⟨u.1,v.1,v'⟩]) (by omega) (hlen _) hd
    | some w =>
     rw[Hv hb hw (show pV b v.2=some (w.1,w.2)from hz),aa,w1,aa,aa]
     refine(ih (i+1) w.2 (ei m [⟨u.1,v.1,w.1⟩]) (by omega) (hlen _) hd).trans ?_
     dsimp only
     cases pL (pC b) j w.2 with
     | none=>rfl
     | some y=>rw[aa];dsimp only;rw[FG];rfl
theorem Pb(hb:b.length≤1048576)(hw:Bytes b)(P:bG)(z:bC):∀ (j i:Nat) (p:Int) (m:bC),i+j=3→m.Done.length≤i →
  lW b (i:Int) P z m (iAt b p false)=match pL (pN b) j p with
   | some (l,q)=>o6 b (iAt b q false) P z (ef m l)
   | none=>some (fF,false,()):=by
 intro j
 induction j with
 | zero =>
  intro i p m hi hm
  rw[HC _ (by omega)]
  unfold pL
  dsimp only
  rw[FJ]
 | succ j ih =>
  intro i p m hi hm
  have w1:w64 ((i:Int)+1)=((i+1:Nat):Int):=by rw[aw];omega
  have hlen:∀ v:Int,(ef m [v]).Done.length≤i+1:=fun v=>by unfold ef;dsimp only;rw[ah];simp only[aW,List.length_nil];omega
  rw[ww,au]
  unfold iAt pL
  cases hx:pN b p with
  | none =>
   rw[lS hb hw hx,aa,bw (by rw[ce];omega),w1]
   exact rQ hb hw P z j (i+1) p (ef m [0]) (by omega) (hlen _)
  | some x =>
   have a1:=dc hw (show pN b p=some (x.1,x.2)from hx)
   rw[kB hb hw (show pN b p=some (x.1,x.2)from hx),aq,aa,bw (by rw[ce];omega),w1,aa]
   refine(ih (i+1) x.2 (ef m [x.1]) (by omega) (hlen _)).trans ?_
   cases pL (pN b) j x.2 with
   | none=>rfl
   | some y=>rw[aa];dsimp only;rw[FI];rfl
noncomputable def iS(b:List Int)(P:bG)(x:Option (bC×Int)):Option (bC×Bool×Unit):=match x with
 | none=>some (fF,false,())
 | some (m,q)=>if(!(decide (q=(List.length b:Int))))=true then some (fF,false,()) else(lX P m).bind fun(r2:Bool×Unit)=>if(!r2.1)=true then some (fF,false,())else some (m,true,())
theorem HH(hb:b.length≤1048576)(hw:Bytes b)(P:bG):kC P b=some (fF,false,())∧(∀ m q,pM b=some (m,q)→8<m.State.Vars.length∨40<m.State.Cells.length)∨kC P b=iS b P (pM b):=by
 rw[Pd]
 unfold pM
 cases hn:pN b 0 with
 | none=>right;rw[lS hb hw hn,aa];exact wo hb hw P cQ 0 (by omega) 0 0 0 _ (by omega) (by simp[cG]) rfl
 | some n =>
  have an:=dc hw (show pN b 0=some (n.1,n.2)from hn)
  rw[kB hb hw (show pN b 0=some (n.1,n.2)from hn),aa]
  have pn:PosI b n.2:=⟨by omega,an.2.2.1⟩
  by_cases c8:n.1>8
  ·left
   rw[bw c8,aa]
   refine⟨wo hb hw P cQ 0 (by omega) 0 0 0 _ (by omega) (by simp[cG]) rfl,fun m q h=>.inl ?_⟩
   obtain⟨vs,hvs,h⟩:=cC h
   obtain⟨k,hk,h⟩:=cC h
   obtain⟨cs,hcs,h⟩:=cC h
   obtain⟨r,hr,h⟩:=cC h
   obtain⟨e,he,h⟩:=cC h
   obtain⟨ds,hds,h⟩:=cC h
   obtain⟨o,ho,h⟩:=cC h
   have e1:(⟨⟨vs.1,cs.1,r.1,e.1⟩,ds.1,o.1⟩:bC)=m:=congrArg Prod.fst (aR h)
   obtain⟨v1,_⟩:=fY (len:=(b.length:Int)) (fun p x q h=>⟨(d9 hw h).1,(d9 hw h).2.1,(d9 hw h).2.2.1⟩) _ _ _ _ (show pL (pV b) n.1.toNat n.2=some (vs.1,vs.2)from hvs) pn.1 pn.2
   rw[← e1];dsimp only;omega
  ·rw[bz c8,aa]
   have f1:=O9 hb hw P cQ n.1 (by omega) n.1.toNat 0 n.2 ⟨cG,[],[]⟩ (by omega) (by simp[cG]) rfl
   have f1':lV b n.1 0 P cQ ⟨cG,[],[]⟩ ⟨b,n.2,false⟩=_:=f1
   dsimp only
   rw[f1']
   cases hvs:pL (pV b) n.1.toNat n.2 with
   | none=>right;rfl
   | some vs =>
    obtain⟨v1,v2,v3⟩:=fY (len:=(b.length:Int)) (fun p x q h=>⟨(d9 hw h).1,(d9 hw h).2.1,(d9 hw h).2.2.1⟩) _ _ _ _ (show pL (pV b) n.1.toNat n.2=some (vs.1,vs.2)from hvs) pn.1 pn.2
    have pv:PosI b vs.2:=⟨by have:=pn.1;omega,v3⟩
    rw[aa]
    dsimp only
    unfold o4 iAt
    cases hk:pN b vs.2 with
    | none =>
     right
     rw[lS hb hw hk,aa]
     exact pq hb hw P cQ 0 (by omega) 0 0 vs.2 (di ⟨cG,[],[]⟩ vs.1) (by omega) (by simp[di,cG]) rfl
    | some k =>
     have ak:=dc hw (show pN b vs.2=some (k.1,k.2)from hk)
     have pk:PosI b k.2:=⟨by omega,ak.2.2.1⟩
     rw[kB hb hw (show pN b vs.2=some (k.1,k.2)from hk)]
     by_cases c40:k.1>40
     ·left
      rw[bw c40,aa]
      refine⟨pq hb hw P cQ 0 (by omega) 0 0 vs.2 (di ⟨cG,[],[]⟩ vs.1) (by omega) (by simp[di,cG]) rfl,fun m q h=>.inr ?_⟩
      rw[aa]at h
      obtain⟨cs,hcs,h⟩:=cC h
      obtain⟨r,hr,h⟩:=cC h
      obtain⟨e,he,h⟩:=cC h
      obtain⟨ds,hds,h⟩:=cC h
      obtain⟨o,ho,h⟩:=cC h
      have e1:(⟨⟨vs.1,cs.1,r.1,e.1⟩,ds.1,o.1⟩:bC)=m:=congrArg Prod.fst (aR h)
      obtain⟨c1,_⟩:=fY (len:=(b.length:Int)) (fun p x q h=>⟨(fb hw h).1,(fb hw h).2.1,(fb hw h).2.2.1⟩) _ _ _ _ (show pL (pC b) k.1.toNat k.2=some (cs.1,cs.2)from hcs) pk.1 pk.2
      rw[← e1];dsimp only;omega
     ·right
      rw[bz c40,aa,aa]
      have f2:=Pa hb hw P cQ k.1 (by omega) k.1.toNat 0 k.2 (di ⟨cG,[],[]⟩ vs.1) (by omega) (by simp[di,cG]) rfl
      have f2':kD b k.1 0 P cQ (di ⟨cG,[],[]⟩ vs.1) ⟨b,k.2,false⟩=_:=f2
      dsimp only
      rw[f2']
      cases hcs:pL (pC b) k.1.toNat k.2 with
      | none=>rfl
      | some cs =>
       rw[aa]
       dsimp only
       unfold o5 iAt
       cases hr:pN b cs.2 with
       | none =>
        rw[lS hb hw hr,aa]
        dsimp only
        rw[lR hb hw,aa]
        exact rQ hb hw P cQ 3 0 cs.2 _ (by omega) (by simp[ei,di])
       | some r =>
        have ar:=dc hw (show pN b cs.2=some (r.1,r.2)from hr)
        rw[kB hb hw (show pN b cs.2=some (r.1,r.2)from hr),aq,aa,aa]
        dsimp only
        cases he:pN b r.2 with
        | none =>
         rw[lS hb hw he,aa]
         exact rQ hb hw P cQ 3 0 r.2 _ (by omega) (by simp[ei,di])
        | some e =>
         have ae:=dc hw (show pN b r.2=some (e.1,e.2)from he)
         rw[kB hb hw (show pN b r.2=some (e.1,e.2)from he),aq,aa,aa]
         have f3:=Pb hb hw P cQ 3 0 e.2 ⟨⟨vs.1,cs.1,r.1,e.1⟩,[],[]⟩ (by omega) (by simp)
         refine Eq.trans f3 ?_
         cases hds:pL (pN b) 3 e.2 with
         | none=>rfl
         | some ds =>
          rw[aa]
          dsimp only
          unfold o6 iAt
          cases ho:pT b ds.2 with
          | none=>rw[wi hb hw ho];rfl
          | some o=>rw[wj hb hw (show pT b ds.2=some (o.1,o.2)from ho),aa];rfl
theorem qa(hb:b.length≤1048576)(hw:Bytes b){m:bC}{q:Int}(h:pM b=some (m,q)):lA m:=by
 unfold pM at h
 obtain⟨n,hn,h⟩:=cC h
 obtain⟨vs,hvs,h⟩:=cC h
 obtain⟨k,hk,h⟩:=cC h
 obtain⟨cs,hcs,h⟩:=cC h
 obtain⟨r,hr,h⟩:=cC h
 obtain⟨e,he,h⟩:=cC h
 obtain⟨ds,hds,h⟩:=cC h
 obtain⟨o,ho,h⟩:=cC h
 have e1:(⟨⟨vs.1,cs.1,r.1,e.1⟩,ds.1,o.1⟩:bC)=m:=congrArg Prod.fst (aR h)
 have an:=dc hw (show pN b 0=some (n.1,n.2)from hn)
 have pn:PosI b n.2:=⟨by omega,an.2.2.1⟩
 obtain⟨v1,v2,v3⟩:=fY (len:=(b.length:Int)) (fun p x q h=>⟨(d9 hw h).1,(d9 hw h).2.1,(d9 hw h).2.2.1⟩) _ _ _ _ (show pL (pV b) n.1.toNat n.2=some (vs.1,vs.2)from hvs) pn.1 pn.2
 have ak:=dc hw (show pN b vs.2=some (k.1,k.2)from hk)
 have pk:PosI b k.2:=⟨by omega,ak.2.2.1⟩
 obtain⟨c1,c2,c3⟩:=fY (len:=(b.length:Int)) (fun p x q h=>⟨(fb hw h).1,(fb hw h).2.1,(fb hw h).2.2.1⟩) _ _ _ _ (show pL (pC b) k.1.toNat k.2=some (cs.1,cs.2)from hcs) pk.1 pk.2
 have ar:=dc hw (show pN b cs.2=some (r.1,r.2)from hr)
 have ae:=dc hw (show pN b r.2=some (e.1,e.2)from he)
 have pe:PosI b e.2:=⟨by omega,ae.2.2.1⟩
 obtain⟨d1,d2,d3⟩:=fY (len:=(b.length:Int)) (fun p x q h=>⟨(dc hw h).1,(dc hw h).2.1,(dc hw h).2.2.1⟩) _ _ _ _ (show pL (pN b) 3 e.2=some (ds.1,ds.2)from hds) pe.1 pe.2
 have ao:=mp hw (show pT b ds.2=some (o.1,o.2)from ho)
 have pn1:=pn.1
 have pk1:=pk.1
 rw[← e1]
 exact⟨⟨⟨by show vs.1.length≤_;omega,I5 (Q:=fun v=>Bt v.S) (fun p x q h=>(d9 hw h).2.2.2.2.2) _ _ _ _ (show pL (pV b) n.1.toNat n.2=some (vs.1,vs.2)from hvs)⟩,by show cs.1.length≤_;omega,I5 (Q:=fun c=>Bt c.Val.S) (fun p x q h=>(fb hw h).2.2.2.2.2.2) _ _ _ _ (show pL (pC b) k.1.toNat k.2=some (cs.1,cs.2)from hcs)⟩,by show ds.1.length≤_;omega,by show o.1.length≤_;omega⟩
def FA(m:bC):Prop:=m=fF∨(lF m∧lA m)
theorem TV(hb:b.length≤1048576)(hw:Bytes b)(P:bG)(hp:gi P):∃ m ok,nX P b=some (m,ok,())∧kC P b=some (m,ok,())∧FA m:=by
 have hs:nX P b=iS b P (pM b):=by
  rw[J5]
  cases h:pM b with
  | none =>
   obtain⟨m,a,e⟩:=JG hb hw h
   rw[e];rfl
  | some x =>
   have hm:=qa hb hw (show pM b=some (x.1,x.2)from h)
   rw[JH hb hw (show pM b=some (x.1,x.2)from h),aa]
   unfold iS
   dsimp only
   rw[yI P _ hp hm.1 hm.2.1,kE P _ hp hm.1 hm.2.1]
   rfl
 have hend:∀ x,(∀ m q,x=some (m,q)→lA m)→∃ m ok,iS b P x=some (m,ok,())∧FA m:=by
  intro x hx
  cases x with
  | none=>exact⟨_,_,rfl,.inl rfl⟩
  | some x =>
   have hm:=hx x.1 x.2 rfl
   unfold iS
   dsimp only
   cases hq:decide (x.2=(b.length:Int)) with
   | false=>exact⟨_,_,rfl,.inl rfl⟩
   | true =>
    rw[bz (by simp),kE P _ hp hm.1 hm.2.1,aa]
    cases hB:eH P x.1 with
    | false=>exact⟨_,_,rfl,.inl rfl⟩
    | true=>exact⟨_,_,rfl,.inr ⟨mi hB,hm⟩⟩
 obtain⟨m,ok,e,hf⟩:=hend (pM b) (fun m q h=>qa hb hw h)
 refine⟨m,ok,by rw[hs,e],?_,hf⟩
 rcases HH hb hw P with ⟨h1,h2⟩ | h1
 ·rw[h1]
  cases h:pM b with
  | none=>rw[h]at e;exact e
  | some x =>
   rw[h]at e
   have hm:=qa hb hw (show pM b=some (x.1,x.2)from h)
   have hf':eH P x.1=false:=by
    cases hB:eH P x.1 with
    | false=>rfl
    | true =>
     have:=mi hB
     rcases h2 x.1 x.2 h with h3 | h3
     ·have:=this.1;omega
     ·have:=this.2.2.1;omega
   unfold iS at e
   dsimp only at e
   rw[kE P _ hp hm.1 hm.2.1,hf']at e
   cases hq:decide (x.2=(b.length:Int)) with
   | false=>rw[hq]at e;exact e
   | true=>rw[hq]at e;exact e
 ·rw[h1];exact e
theorem xA{b:List Int}{p:Nat}(hp:p≤b.length){n:Int}(hn:0≤n∧n≤4611686018427387903){C:List Int}(h:b.drop p=cz n++C):cU b (p:Int)=(n,((p+(cz n).length:Nat):Int),true)∧b.drop (p+(cz n).length)=C∧p+(cz n).length≤b.length:=by
 have e:cz n=dV 8 n:=by unfold cz;rw[bw hn]
 have hl:=congrArg List.length h
 rw[aV,ah]at hl
 refine⟨?_,by rw[← List.drop_drop,h,List.drop_left],by omega⟩
 unfold cU
 rw[ap]
 have:=OO b (p:Int) (by omega) 8 0 0 n C (by omega) (by rw[← e];simpa using h) hn.1 (by have:=hn.2;omega) (by omega) (by simp) (fun h=>by omega) (by simpa using hn.2)
 have this':er b (p:Int) 9 0 0=_:=this
 rw[this',e]
 simp only[Int.zero_add,Int.pow_zero,Int.mul_one,Prod.mk.injEq,and_true,true_and]
 omega
theorem YY{b:List Int}{p:Nat}(hp:p≤b.length){t:List Int}(ht:t.length≤1000000){C:List Int}(h:b.drop p=dA t++C):ew b (p:Int)=(t,((p+(dA t).length:Nat):Int),true)∧b.drop (p+(dA t).length)=C∧p+(dA t).length≤b.length:=by
 have hl:=congrArg List.length h
 rw[aV,ah]at hl
 have h':b.drop p=cz (t.length:Int)++(t++C):=by rw[h];unfold dA;rw[ai]
 have hpl:(dA t).length=(cz (t.length:Int)).length+t.length:=by unfold dA;rw[ah]
 obtain⟨e,h2,h3⟩:=xA hp ⟨by omega,by omega⟩ h'
 refine⟨?_,by rw[← List.drop_drop,h,List.drop_left],by omega⟩
 unfold ew
 rw[e]
 dsimp only
 rw[bw ⟨rfl,by omega⟩,ag,ag,h2,List.take_left,hpl]
 simp only[Prod.mk.injEq,and_true,true_and]
 omega
theorem mn{b:List Int}{p:Nat}(hp:p≤b.length){n:Int}(hn:0≤n∧n≤4611686018427387903){C:List Int}(h:b.drop p=cz n++C):pN b (p:Int)=some (n,((p+(cz n).length:Nat):Int))∧b.drop (p+(cz n).length)=C∧p+(cz n).length≤b.length:=by
 obtain⟨e,h2⟩:=xA hp hn h
 refine⟨?_,h2⟩
 unfold pN
 rw[e,bw rfl]
theorem xD{b:List Int}{p:Nat}(hp:p≤b.length){t:List Int}(ht:t.length≤1000000){C:List Int}(h:b.drop p=dA t++C):pT b (p:Int)=some (t,((p+(dA t).length:Nat):Int))∧b.drop (p+(dA t).length)=C∧p+(dA t).length≤b.length:=by
 obtain⟨e,h2⟩:=YY hp ht h
 refine⟨?_,h2⟩
 unfold pT
 rw[e,bw rfl]
theorem UA{b:List Int}{p:Nat}(hp:p≤b.length){n:Int}(hn:InZ n){C:List Int}(h:b.drop p=eI n++C):pZ b (p:Int)=some (n,((p+(eI n).length:Nat):Int))∧b.drop (p+(eI n).length)=C∧p+(eI n).length≤b.length:=by
 have hh:=hn
 unfold InZ at hh
 have hz:zag (zig n)=n:=by
  unfold zig
  by_cases h2:n<0
  ·rw[bw h2];unfold zag;rw[ap];omega
  ·rw[bz h2];unfold zag;rw[aq];omega
 have hb:0≤zig n∧zig n≤4611686018427387903:=by unfold zig;split <;> omega
 have e0:eI n=cz (zig n):=by unfold eI;rw[bw hn]
 rw[e0]at h ⊢
 obtain⟨e,h2⟩:=xA hp hb h
 refine⟨?_,h2⟩
 have eg:dH b (p:Int)=(n,((p+(cz (zig n)).length:Nat):Int),true):=by
  unfold dH
  rw[e]
  dsimp only
  rw[hz,bw ⟨rfl,hn⟩]
 unfold pZ
 rw[eg,bw rfl]
def oT(v:bL):Prop:=(0≤v.Kind∧v.Kind≤3)∧(-9000000000000≤v.N∧v.N≤9000000000000)∧v.S.length≤300
theorem I6{b:List Int}{p:Nat}(hp:p≤b.length){v:bL}(hv:oT v){C:List Int}(h:b.drop p=dW v++C):pV b (p:Int)=some (v,((p+(dW v).length:Nat):Int))∧b.drop (p+(dW v).length)=C∧p+(dW v).length≤b.length:=by
 obtain⟨k,n,s⟩:=hv
 have hl:(dW v).length=(cz v.Kind).length+(eI v.N).length+(dA v.S).length:=by unfold dW;rw[ah,ah]
 have h0:b.drop p=cz v.Kind++(eI v.N++(dA v.S++C)):=by rw[h];unfold dW;simp[ai]
 obtain⟨e1,r1,p1⟩:=mn hp ⟨k.1,by omega⟩ h0
 obtain⟨e2,r2,p2⟩:=UA p1 (show InZ v.N from⟨by omega,by omega⟩) r1
 obtain⟨e3,r3,p3⟩:=xD p2 (by omega) r2
 refine⟨?_,by rw[← r3];congr 1;omega,by omega⟩
 unfold pV
 rw[e1,aa,e2,aa,e3,aa,hl]
 congr 2
 omega
def u7(c:bA):Prop:=(0≤c.Name∧c.Name≤4000000)∧c.Key.length≤300∧oT c.Val
def ie(c:bA):List Int:=(cz c.Name++dA c.Key)++dW c.Val
theorem Uw{b:List Int}{p:Nat}(hp:p≤b.length){c:bA}(hc:u7 c){C:List Int}(h:b.drop p=ie c++C):pC b (p:Int)=some (c,((p+(ie c).length:Nat):Int))∧b.drop (p+(ie c).length)=C∧p+(ie c).length≤b.length:=by
 obtain⟨n,k,v⟩:=hc
 have hl:(ie c).length=(cz c.Name).length+(dA c.Key).length+(dW c.Val).length:=by unfold ie;rw[ah,ah]
 have h0:b.drop p=cz c.Name++(dA c.Key++(dW c.Val++C)):=by rw[h];unfold ie;simp[ai]
 obtain⟨e1,r1,p1⟩:=mn hp ⟨n.1,by omega⟩ h0
 obtain⟨e2,r2,p2⟩:=xD p1 (by omega) r1
 obtain⟨e3,r3,p3⟩:=I6 p2 v r2
 refine⟨?_,by rw[← r3];congr 1;omega,by omega⟩
 unfold pC
 rw[e1,aa,e2,aa,e3,aa,hl]
 congr 2
 omega
def eP{α:Type}(g:α→List Int):List α→List Int
 | []=>[]
 | x::l=>g x++eP g l
theorem rH{α:Type}(f:List Int→α→List Int)(g:α→List Int)(hf:∀ a x,f a x=a++g x):∀ (l:List α) (a:List Int),l.foldl f a=a++eP g l
 | [],a=>by simp[eP]
 | x::l,a=>by rw[List.foldl_cons,rH f g hf l,hf,eP,ai]
theorem sF{α:Type}{b:List Int}(f:Int→Option (α×Int))(g:α→List Int)(P:α→Prop)(hf:∀ (p:Nat) (x:α) (C:List Int),p≤b.length→P x→b.drop p=g x++C→f (p:Int)=some (x,((p+(g x).length:Nat):Int))∧b.drop (p+(g x).length)=C∧p+(g x).length≤b.length) :
  ∀ (l:List α) (p:Nat) (C:List Int),p≤b.length→(∀ x∈l,P x)→b.drop p=eP g l++C→pL f l.length (p:Int)=some (l,((p+(eP g l).length:Nat):Int))∧b.drop (p+(eP g l).length)=C∧p+(eP g l).length≤b.length
 | [],p,C,hp,_,h=>⟨by simp[pL,eP],by simpa [eP]using h,by simpa [eP]using hp⟩
 | x::l,p,C,hp,hl,h=>by
  rw[eP,ai]at h
  obtain⟨e1,r1,p1⟩:=hf p x _ hp (hl x aH) h
  obtain⟨e2,r2,p2⟩:=sF f g P hf l _ C p1 (fun y hy=>hl y (aI _ hy)) r1
  rw[eP,ah,← Nat.add_assoc]
  refine⟨?_,r2,p2⟩
  rw[aW,pL,e1,aa]
  dsimp only
  rw[e2,aa]
structure McIn (m:bC):Prop where
 vars:m.State.Vars.length≤8∧∀ v∈m.State.Vars,oT v
 cells:m.State.Cells.length≤40∧∀ c∈m.State.Cells,u7 c
 nr:0≤m.State.Nr∧m.State.Nr≤1000000
 err:0≤m.State.Err∧m.State.Err≤7
 done:m.Done.length=3∧∀ n∈m.Done,0≤n∧n≤100000
 out:m.Out.length≤1500
theorem Uz{m:bC}(h:McIn m):pM (eQ m)=some (m,((eQ m).length:Int)):=by
 have eA:m.State.Vars.foldl ib (cz (m.State.Vars.length:Int))=cz (m.State.Vars.length:Int)++eP dW m.State.Vars:=rH _ _ (fun _ _=>rfl) _ _
 have eC:∀ a,m.State.Cells.foldl gn a=a++eP ie m.State.Cells:=fun a=>rH _ _ (fun _ _=>by unfold gn ie;simp[ai]) _ _
 have eN:∀ a,m.Done.foldl jr a=a++eP cz m.Done:=fun a=>rH _ _ (fun _ _=>rfl) _ _
 have h0:(eQ m).drop 0=cz (m.State.Vars.length:Int)++(eP dW m.State.Vars++(cz (m.State.Cells.length:Int)++(eP ie m.State.Cells++(cz m.State.Nr++(cz m.State.Err++(eP cz m.Done++(dA m.Out++[]))))))):=by
  rw[aQ]
  unfold eQ gq gr
  rw[eN,eC,eA]
  simp[ai]
 generalize eQ m=b at h0
 obtain⟨⟨v1,v2⟩,⟨c1,c2⟩,hn,he,⟨d1,d2⟩,ho⟩:=h
 obtain⟨e1,r1,p1⟩:=mn (Nat.zero_le _) ⟨by omega,by omega⟩ h0
 obtain⟨e2,r2,p2⟩:=sF (pV b) dW oT (fun p x C hp hx h=>I6 hp hx h) _ _ _ p1 v2 r1
 obtain⟨e3,r3,p3⟩:=mn p2 ⟨by omega,by omega⟩ r2
 obtain⟨e4,r4,p4⟩:=sF (pC b) ie u7 (fun p x C hp hx h=>Uw hp hx h) _ _ _ p3 c2 r3
 obtain⟨e5,r5,p5⟩:=mn p4 ⟨hn.1,by omega⟩ r4
 obtain⟨e6,r6,p6⟩:=mn p5 ⟨he.1,by omega⟩ r5
 obtain⟨e7,r7,p7⟩:=sF (pN b) cz (fun n=>0≤n∧n≤100000) (fun p x C hp hx h=>mn hp ⟨hx.1,by omega⟩ h) _ _ _ p6 d2 r6
 obtain⟨e8,r8,p8⟩:=xD p7 (by omega) r7
 have hend:=congrArg List.length r8
 rw[aV,List.length_nil]at hend
 rw[d1]at e7
 unfold pM
 rw[show(0:Int)=((0:Nat):Int)from rfl,e1,aa]
 dsimp only
 rw[ag,e2,aa]
 dsimp only
 rw[e3,aa]
 dsimp only
 rw[ag,e4,aa]
 dsimp only
 rw[e5,aa]
 dsimp only
 rw[e6,aa]
 dsimp only
 rw[e7,aa]
 dsimp only
 rw[e8,aa]
 congr 2
 omega
theorem Uy{b:List Int}(hw:Bytes b){m:bC}{q:Int}(h:pM b=some (m,q)):b.take q.toNat=eQ m:=by
 unfold pM at h
 obtain⟨n,hn,h⟩:=cC h
 obtain⟨vs,hvs,h⟩:=cC h
 obtain⟨k,hk,h⟩:=cC h
 obtain⟨cs,hcs,h⟩:=cC h
 obtain⟨r,hr,h⟩:=cC h
 obtain⟨e,he,h⟩:=cC h
 obtain⟨ds,hds,h⟩:=cC h
 obtain⟨o,ho,h⟩:=cC h
 have e1:(⟨⟨vs.1,cs.1,r.1,e.1⟩,ds.1,o.1⟩:bC)=m:=congrArg Prod.fst (aR h)
 have e2:o.2=q:=congrArg Prod.snd (aR h)
 have an:=dc hw (show pN b 0=some (n.1,n.2)from hn)
 obtain⟨v1,v2,v3⟩:=fY (len:=(b.length:Int)) (fun p x q h=>⟨(d9 hw h).1,(d9 hw h).2.1,(d9 hw h).2.2.1⟩) _ _ _ _ (show pL (pV b) n.1.toNat n.2=some (vs.1,vs.2)from hvs) (by omega) an.2.2.1
 have bv:=xC (b:=b) (g:=ib) (fun p x q h=>(d9 hw h).2.2.2.1) _ _ _ _ (show pL (pV b) n.1.toNat n.2=some (vs.1,vs.2)from hvs)
 have ak:=dc hw (show pN b vs.2=some (k.1,k.2)from hk)
 obtain⟨c1,c2,c3⟩:=fY (len:=(b.length:Int)) (fun p x q h=>⟨(fb hw h).1,(fb hw h).2.1,(fb hw h).2.2.1⟩) _ _ _ _ (show pL (pC b) k.1.toNat k.2=some (cs.1,cs.2)from hcs) (by omega) ak.2.2.1
 have bc:=xC (b:=b) (g:=gn) (fun p x q h=>(fb hw h).2.2.2.1) _ _ _ _ (show pL (pC b) k.1.toNat k.2=some (cs.1,cs.2)from hcs)
 have ar:=dc hw (show pN b cs.2=some (r.1,r.2)from hr)
 have ae:=dc hw (show pN b r.2=some (e.1,e.2)from he)
 have bd:=xC (b:=b) (g:=jr) (fun p x q h=>(dc hw h).2.2.2.1) _ _ _ _ (show pL (pN b) 3 e.2=some (ds.1,ds.2)from hds)
 have ao:=mp hw (show pT b ds.2=some (o.1,o.2)from ho)
 rw[← e1,← e2,ao.2.2.2.1,bd,ae.2.2.2.1,ar.2.2.2.1,bc,ak.2.2.2.1,bv,an.2.2.2.1]
 unfold eQ gq gr
 dsimp only
 rw[c1,v1,show((n.1.toNat:Nat):Int)=n.1 by omega,show((k.1.toNat:Nat):Int)=k.1 by omega]
 simp
theorem TT{b:List Int}(hb:b.length≤1048576)(hw:Bytes b)(P:bG)(hp:gi P):nX P b=iS b P (pM b):=by
 rw[J5]
 cases h:pM b with
 | none =>
  obtain⟨m,a,e⟩:=JG hb hw h
  rw[e];rfl
 | some x =>
  have hm:=qa hb hw (show pM b=some (x.1,x.2)from h)
  rw[JH hb hw (show pM b=some (x.1,x.2)from h),aa]
  unfold iS
  dsimp only
  rw[yI P _ hp hm.1 hm.2.1,kE P _ hp hm.1 hm.2.1]
  rfl
theorem TU{b:List Int}(hb:b.length≤1048576)(hw:Bytes b)(P:bG)(hp:gi P):∃ m ok,nX P b=some (m,ok,())∧kC P b=some (m,ok,())∧(ok=false→m=fF)∧(ok=true→eQ m=b∧eH P m=true∧lA m):=by
 obtain⟨m,ok,e1,e2,_⟩:=TV hb hw P hp
 have e3:=TT hb hw P hp
 rw[e1]at e3
 refine⟨m,ok,e1,e2,?_⟩
 cases h:pM b with
 | none =>
  rw[h]at e3
  have e4:=aR e3
  simp only[Prod.mk.injEq]at e4
  exact⟨fun _=>e4.1,fun h=>by rw[e4.2.1]at h;cases h⟩
 | some x =>
  have hm:=qa hb hw (show pM b=some (x.1,x.2)from h)
  have hby:=Uy hw (show pM b=some (x.1,x.2)from h)
  rw[h]at e3
  unfold iS at e3
  dsimp only at e3
  by_cases hq:x.2=(b.length:Int)
  ·rw[ac hq,bz (by decide),kE P _ hp hm.1 hm.2.1,aa]at e3
   dsimp only at e3
   cases hB:eH P x.1 with
   | false =>
    rw[hB,bw (by decide)]at e3
    have e4:=aR e3
    simp only[Prod.mk.injEq]at e4
    exact⟨fun _=>e4.1,fun h=>by rw[e4.2.1]at h;cases h⟩
   | true =>
    rw[hB,bz (by decide)]at e3
    have e4:=aR e3
    simp only[Prod.mk.injEq]at e4
    refine⟨fun h=>(by rw[e4.2.1]at h;cases h),fun _=>?_⟩
    rw[e4.1]
    refine⟨?_,hB,hm⟩
    rw[← hby,hq,ag,List.take_length]
  ·rw[af hq,bw (by decide)]at e3
   have e4:=aR e3
   simp only[Prod.mk.injEq]at e4
   exact⟨fun _=>e4.1,fun h=>by rw[e4.2.1]at h;cases h⟩
theorem TS{P:bG}(hp:gi P){m:bC}(h:eH P m=true):McIn m:=by
 have hf:=mi h
 unfold eH at h
 rw[and_iff',and_iff',and_iff',and_iff']at h
 obtain⟨_,hs,h3,hd,ho⟩:=h
 unfold hJ at hs
 rw[and_iff',and_iff',and_iff',and_iff',and_iff']at hs
 obtain⟨s1,s2,s3,s4,s5,s6⟩:=hs
 have vin:∀ v,dL v=true→oT v:=fun v hv=>by
  have hl:=EU hv
  unfold dL at hv
  rw[and_iff',and_iff']at hv
  obtain⟨⟨hn,_⟩,hk⟩:=hv
  refine⟨?_,of_decide_eq_true hn,hl⟩
  by_cases k0:v.Kind=0
  ·omega
  by_cases k1:v.Kind=1
  ·omega
  by_cases k2:v.Kind=2
  ·omega
  by_cases k3:v.Kind=3
  ·omega
  ·rw[bz k0,bz k1,bz k2,bz k3]at hk;cases hk
 refine⟨⟨hf.1,fun v hv=>vin v ?_⟩,⟨hf.2.2.1,fun c hc=>?_⟩,of_decide_eq_true s4,of_decide_eq_true s5,⟨hf.2.2.2.2.1,fun n hn=>?_⟩,hf.2.2.2.2.2⟩
 ·rw[Bool.not_eq_true',List.any_eq_false]at s2
  have:=s2 v hv
  simpa using this
 ·rw[Bool.not_eq_true']at s6
  obtain⟨i,hi,rfl⟩:=bq.1 hc
  have h6:=(anyB_false.1 s6) i hi
  unfold iQ at h6
  rw[dj hi]at h6
  have hfc:=hf.2.2.2.1 _ hc
  simp only[Bool.or_eq_false_iff,decide_eq_false_iff_not,Bool.not_eq_false']at h6
  obtain⟨q1,q2,q3,q4,_⟩:=h6
  have hcl:=hp.2.1.1
  exact⟨⟨by omega,by omega⟩,hfc.1,vin _ q4⟩
 ·rw[Bool.not_eq_true',List.any_eq_false]at hd
  have:=hd n hn
  simpa using this
theorem Bytes.app{a b:List Int}(ha:Bytes a)(hb:Bytes b):Bytes (a++b):=fun x hx=>(aE.1 hx).elim (ha x) (hb x)
theorem dJ{c:bS}(h:cq c)(n:Int)(hn:0<n):Tot (dI c n) (fun y=>(0≤y.1∧y.1<n)∧cq y.2.1):=by
 obtain⟨x,c',e,k,a,b,_⟩:=rg h n
 exact te e ⟨⟨a,b hn⟩,k⟩
theorem kQ{c:bS}(h:cq c)(l:List (List Int))(hl:l≠[]):Tot (gZ c l) (fun y=>y.1∈l∧cq y.2.1):=by
 obtain⟨x,c',e,k,m⟩:=xG h l hl
 exact te e ⟨m,k⟩
theorem mr{c:bS}(h:cq c)(l:List Int)(hl:l≠[]):Tot (g7 c l) (fun y=>y.1∈l∧cq y.2.1):=by
 obtain⟨x,c',e,k,m⟩:=UM h l hl
 exact te e ⟨m,k⟩
theorem I0{c:bS}(h:cq c)(n:Int):Tot (ud c n) (fun y=>cq y.2.1):=by
 obtain⟨x,c',e,k,_⟩:=rg h n
 rw[XM,e]
 exact ts k
theorem kL{l:List (List Int)}{n:Nat}{x:List Int}(hl:(l.all fun t=>decide (t.length≤n)&&t.all fun b=>decide (0≤b∧b≤255))=true)(h:x∈l):x.length≤n∧Bt x:=by
 have:=List.all_eq_true.1 hl x h
 rw[aD,ab]at this
 exact⟨this.1,fun b hb=>of_decide_eq_true (List.all_eq_true.1 this.2 b hb)⟩
theorem eF{a b:List Int}(ha:Bt a)(hb:Bt b):Bt (a++b):=fun x hx=>(aE.1 hx).elim (ha x) (hb x)
theorem lI:Bt []:=fun x hx=>by cases hx
theorem TF{c:bS}(h:cq c):Tot (zg c) (fun y=>(y.1.length≤100∧Bt y.1)∧cq y.2.1):=by
 rw[WI]
 have key:∀ (d i:Nat) (t:List Int) (c:bS),cq c→i+d=4→t.length≤5*i→Bt t→Tot (tC t (i:Int) c) (fun y=>(y.1.length≤100∧Bt y.1)∧cq y.2.1):=by
  intro d
  induction d with
  | zero =>
   intro i t c h hd ht hb
   rw[Kp]
   exact tb (dJ h 5 (by omega)) (fun y hy=>tn (by rw[ab];omega) (ts ⟨⟨by show t.length≤_;omega,hb⟩,hy.2⟩))
  | succ d ih =>
   intro i t c h hd ht hb
   rw[Kp,cF (n:=4) (by omega) (by omega)]
   refine tb (dJ h 5 (by omega)) (fun y hy=>ti (fun _=>tb (kQ hy.2 _ (by simp)) (fun u hu=>?_)) (fun _=>ts ⟨⟨by show t.length≤_;omega,hb⟩,hy.2⟩))
   have l2:=kL (n:=3) (by decide) hu.1
   refine tc (by omega) (tb (kQ hu.2 _ (by simp)) (fun v hv=>?_))
   have l3:=kL (n:=2) (by decide) hv.1
   refine tc (by rw[ah];omega) (ih (i+1) _ _ hv.2 (by omega) (by rw[ah,ah];omega) (eF (eF hb l2.2) l3.2))
 exact key 4 0 [] c h (by omega) (by simp) lI
def CmW(c:bB):Prop:=c.Line.length≤100∧Bt c.Line
theorem Np{c:bS}(h:cq c):Tot (zU c) (fun y=>CmW y.1∧cq y.2.1):=by
 rw[Xw]
 exact tb (I0 h 8) (fun y hy=>ti (fun _=>ts ⟨⟨by simp,lI⟩,hy⟩) (fun _=>tb (dJ hy 3 (by omega)) (fun z hz=>tb (dJ hz.2 5 (by omega)) (fun u hu=>tb (TF hu.2) (fun v hv=>ts ⟨hv.1,hv.2⟩)))))
theorem Nq{c:bS}(h:cq c)(n:Nat)(hn:n≤100):Tot (zV c (n:Int)) (fun y=>(y.1.length≤100∧∀ x∈y.1,CmW x)∧cq y.2.1):=by
 rw[Xx,aw]
 refine tb (dJ h _ (by omega)) (fun y hy=>?_)
 obtain⟨m,hm⟩:=Int.eq_ofNat_of_zero_le hy.1.1
 rw[hm]
 have key:∀ (d i:Nat) (l:List bB) (c:bS),cq c→i+d=m→l.length=i→(∀ x∈l,CmW x)→Tot (tR l (m:Int) (i:Int) c) (fun y=>(y.1.length≤100∧∀ x∈y.1,CmW x)∧cq y.2.1):=by
  intro d
  induction d with
  | zero =>
   intro i l c hc hd hl hw
   rw[Kz,av]
   exact ts ⟨⟨by show l.length≤_;omega,hw⟩,hc⟩
  | succ d ih =>
   intro i l c hc hd hl hw
   rw[Kz,au,aw (n:=(i:Int)+1)]
   refine tb (Np hc) (fun z hz=>tc (by rw[ce];omega) (ih (i+1) _ _ hz.2 (by omega) (by show(l++[_]).length=_;rw[ah,hl];rfl) (fun x hx=>?_)))
   rcases aE.1 (show x∈l++[_]from hx)with hx | hx
   ·exact hw x hx
   ·rw[aN.1 hx];exact hz.1
 exact key m 0 [] _ hy.2 (by omega) rfl (fun x hx=>by cases hx)
theorem TQ{p:bG}(hp:PrW p)(hr:s_ProgOk p=some (true,())){cs:List bB}(hl:cs.length≤1000)(hc:∀ c∈cs,CmW c):Tot (th p cs) (fun y=>McW p.Vars.length y.1):=by
 obtain⟨y,e,hy⟩:=TR hp hl (fun c h=>⟨by have:=(hc c h).1;omega,(hc c h).2⟩)
 refine⟨y,e,hy.resolve_left fun hy=>?_⟩
 rw[J3,hr,aa,bz (by simp)]at e
 obtain⟨m,e2,hm⟩:=IJ hp
 rw[e2,aa]at e
 have len:∀ (d i:Nat) (m:bC) (y:bC×Unit),i+d=cs.length→McW p.Vars.length m→nW cs (i:Int) p cQ m=some y→McW p.Vars.length y.1:=by
  intro d
  induction d with
  | zero =>
   intro i m y hd hm e
   rw[tj,av]at e
   cases e;exact hm
  | succ d ih =>
   intro i m y hd hm e
   have hi:i<cs.length:=by omega
   obtain⟨h1,h2⟩:=hc _ (aZ hi)
   rw[tj,au,ap,cX hi,JO _ (by omega),aa,cF hi (by omega)]at e
   dsimp only at e
   by_cases c:ng cs[i]=true
   ·rw[bw c,ap]at e
    have cw:cs[i].Who<3:=by
     have c':=c
     unfold ng at c'
     by_cases e:(cs[i].Who) = -1
     ·omega
     ·simp[e]at c';omega
    obtain⟨z,e3,hz⟩:=GR hp hm cw (by omega) h2
    rw[e3,aa]at e
    exact ih (i+1) _ _ (by omega) hz e
   ·rw[bz c]at e
    exact ih (i+1) _ _ (by omega) hm e
 have h3:=(len cs.length 0 _ _ (by omega) hm e).2.1
 rw[hy]at h3
 cases h3
theorem iP(n:Int):Bt (cz n):=U2 n
theorem rl{t:List Int}(h:Bt t):Bt (dA t):=eF (iP _) h
theorem Gh(n:Int):Bt (eI n):=by
 unfold eI
 split
 ·exact iP _
 ·exact lI
theorem rj{α:Type}(f:List Int→α→List Int)(P:α→Prop)(hf:∀ a x,Bt a→P x→Bt (f a x)):∀ (l:List α) (a:List Int),Bt a→(∀ x∈l,P x)→Bt (l.foldl f a)
 | [],a,ha,_=>ha
 | x::l,a,ha,h=>rj f P hf l (f a x) (hf a x ha (h x aH)) (fun y hy=>h y (aI _ hy))
theorem N0{c:bS}(h:cq c){b:List Int}(hl:b.length≤1000000)(hb:Bt b):Tot (zY c b) (fun y=>(y.1.length≤b.length+1∧Bt y.1)∧cq y.2.1):=by
 rw[XE,aw]
 refine tb (dJ h _ (by omega)) (fun y hy=>tb (dJ hy.2 5 (by omega)) (fun z hz=>ti (fun _=>tc (by omega) (ts ⟨⟨?_,fun x hx=>hb x (by first | exact List.mem_of_mem_drop (List.mem_of_mem_take hx) | exact List.mem_of_mem_take hx)⟩,hz.2⟩)) (fun _=>ti (fun _=>?_) (fun _=>ts ⟨⟨by show b.length≤_;omega,hb⟩,hz.2⟩))))
 ·simp only[aU,aV];omega
 ·refine tc (by omega) (tc (by rw[ce,aU,aV];omega) (tb (mr hz.2 _ (by simp)) (fun u hu=>tc (by omega) (tc (by rw[ce,aU,aV];omega) (tc ?_ (ts ⟨⟨?_,?_⟩,hu.2⟩))))))
  ·show(List.take _ (List.drop 0 b)).length+([_]++List.take _ (List.drop _ b)).length≤_
   rw[ce,ah,aU,aV,aU,aV,bo];omega
  ·show(List.take _ (List.drop 0 b)++([_]++List.take _ (List.drop _ b))).length≤_
   rw[ah,ah,aU,aV,aU,aV,bo];omega
  ·exact eF (fun x hx=>hb x (List.mem_of_mem_drop (List.mem_of_mem_take (show x∈List.take _ (List.drop 0 b)from hx)))) (eF (a:=[_]) (fun x hx=>by rw[aN.1 hx];exact LI _) (fun x hx=>hb x (List.mem_of_mem_drop (List.mem_of_mem_take hx))))
theorem GL{c:bS}(h:cq c):Tot (tZ c) (fun y=>cq y.2.1):=by
 rw[XK]
 exact tb (mr h _ (by simp)) (fun z hz=>ts hz.2)
theorem MH{c:bS}(h:cq c):Tot (z7 c) (fun y=>cq y.2.1):=by
 rw[XJ]
 exact tb (I0 h 6) (fun y hy=>ti (fun _=>tb (mr hy _ (by simp)) (fun z hz=>ts hz.2)) (fun _=>tb (GL hy) (fun z hz=>ts hz)))
theorem EV{c:bS}(h:cq c):Tot (qD c) (fun y=>VW y.1∧cq y.2.1):=by
 rw[Yc]
 refine tb (dJ h 4 (by omega)) (fun y hy=>ti (fun _=>ts ⟨lt _ _,hy.2⟩) (fun _=>ti (fun _=>tb (GL hy.2) (fun z hz=>ts ⟨lt _ _,hz⟩)) (fun _=>ti (fun _=>tb (kQ hy.2 _ (by simp)) (fun z hz=>ts ⟨?_,hz.2⟩)) (fun _=>tb (kQ hy.2 _ (by simp)) (fun z hz=>?_)))))
 ·exact kL (n:=300) (by decide) hz.1
 ·have:=kL (n:=300) (by decide) hz.1
  exact tb (sM (by omega) this.2) (fun u hu=>ts ⟨hu,hz.2⟩)
theorem Y9{c:bS}(h:cq c):Tot (Au c) (fun y=>Bt y.1.S∧cq y.2.1):=by
 rw[Yd]
 refine tb (EV h) (fun v hv=>tb (dJ hv.2 12 (by omega)) (fun y hy=>ti (fun _=>tb (dJ hy.2 6 (by omega)) (fun z hz=>ts ⟨hv.1.2,hz.2⟩)) (fun _=>ti (fun _=>tb (MH hy.2) (fun z hz=>ts ⟨hv.1.2,hz⟩)) (fun _=>ti (fun _=>tc (by have:=hv.1.1;simp only[aW,List.length_nil];omega) (ts ⟨eF hv.1.2 (fun x hx=>by rw[aN.1 hx];omega),hy.2⟩)) (fun _=>ts ⟨hv.1.2,hy.2⟩)))))
theorem GQ{c:bS}(h:cq c):Tot (tB c) (fun y=>TW y.1∧cq y.2.1):=by
 rw[WH]
 exact tb (kQ h _ (by simp)) (fun z hz=>ts ⟨kL (n:=300) (by decide) hz.1,hz.2⟩)
def SmS(s:bJ):Prop:=(s.Vars.length≤100∧∀ v∈s.Vars,Bt v.S)∧s.Cells.length≤100∧∀ c∈s.Cells,Bt c.Key∧Bt c.Val.S
theorem SmS.big{s:bJ}(h:SmS s):m8 s:=⟨⟨by have:=h.1.1;omega,h.1.2⟩,by have:=h.2.1;omega,fun c hc=>(h.2.2 c hc).2⟩
theorem Lr{nv:Nat}(hn:nv≤8){s:bJ}(h:SW nv s):SmS s:=⟨⟨by have:=h.1.1;omega,fun v hv=>(h.1.2 v hv).2⟩,by have:=h.2.1;omega,fun c hc=>⟨(h.2.2 c hc).1.2,(h.2.2 c hc).2.2⟩⟩
theorem YI(n:Nat)(hn:n≤100):Tot (ob (n:Int)) (fun y=>SW (min n 8) y.1):=by
 have e1:qA (n:Int) 8=some (((min n 8:Nat):Int),()):=by
  rw[z8]
  by_cases c:(n:Int)<8
  ·rw[am c,show min n 8=n by omega]
  ·rw[al c,show min n 8=8 by omega];rfl
 have e2:jc 0 ((min n 8:Nat):Int)=some (((min n 8:Nat):Int),()):=by
  rw[ua,av]
 rw[Kj,e1,aa]
 dsimp only
 rw[e2,aa]
 dsimp only
 refine tc ⟨by omega,by omega,by rw[ce];omega⟩ (ts ⟨⟨?_,fun v hv=>?_⟩,by simp,fun c hc=>by cases hc⟩)
 ·show(List.replicate _ _).length=_
  rw[bf];omega
 ·rw[List.eq_of_mem_replicate hv];exact EX
theorem YJ{c:bS}(h:cq c)(n k:Nat)(hn:n≤100):Tot (zh c (n:Int) (k:Int)) (fun y=>SW (min n 8) y.1∧cq y.2.1):=by
 have E:∀ {c:bS} {s:bJ} {nv:Nat},cq c→SW nv s→Tot ((g7 c [0,1,5,5,1000000,999999]).bind fun(r5:Int×bS×Unit)=>some ((bJ.mk s.Vars s.Cells r5.1 s.Err),r5.2.1,())) (fun y=>SW nv y.1∧cq y.2.1):=fun {c s nv} hc hs=>tb (mr hc _ (by simp)) (fun z hz=>ts ⟨hs,hz.2⟩)
 have L2:∀ (d i:Nat) (c:bS) (s:bJ),cq c→i+d=6→SW (min n 8) s→Tot (tE (k:Int) (i:Int) c cG s) (fun y=>SW (min n 8) y.1∧cq y.2.1):=by
  intro d
  induction d with
  | zero =>
   intro i c s hc hd hs
   rw[Kr]
   exact tb (dJ hc 6 (by omega)) (fun y hy=>tn (by rw[ab];omega) (E hy.2 hs))
  | succ d ih =>
   intro i c s hc hd hs
   rw[Kr,cF (n:=7) (by omega) (by omega)]
   refine tb (dJ hc 6 (by omega)) (fun y hy=>ti (fun _=>ti (fun hk=>?_) (fun _=>E hy.2 hs)) (fun _=>E hy.2 hs))
   rw[ab]at hk
   exact tb (dJ hy.2 _ hk) (fun z hz=>tb (GQ hz.2) (fun u hu=>tb (EV hu.2) (fun v hv=>tb (Jk hs (by omega) _ hu.1 hv.1) (fun w hw=>ih (i+1) _ _ hv.2 (by omega) hw))))
 have L1:∀ (d i:Nat) (c:bS) (s:bJ),cq c→i+d=s.Vars.length→SW (min n 8) s→Tot (tD (k:Int) (i:Int) c cG s) (fun y=>SW (min n 8) y.1∧cq y.2.1):=by
  intro d
  induction d with
  | zero =>
   intro i c s hc hd hs
   rw[Kq,av]
   exact L2 6 0 c s hc (by omega) hs
  | succ d ih =>
   intro i c s hc hd hs
   have hi:i<s.Vars.length:=by omega
   have hl:=hs.1.1
   rw[Kq,au,cF hi (by omega)]
   refine tb (EV hc) (fun v hv=>tc (by omega) (ih (i+1) _ _ hv.2 (by show _=(List.set _ _ _).length;rw[a8];omega) ⟨⟨by show(List.set _ _ _).length=_;rw[a8];exact hl,fun x hx=>?_⟩,hs.2⟩))
   rcases List.mem_or_eq_of_mem_set hx with hx | rfl
   ·exact hs.1.2 x hx
   ·exact hv.1
 rw[WJ]
 exact tb (YI n hn) (fun y hy=>L1 y.1.Vars.length 0 c y.1 h (by omega) hy)
theorem YK{c:bS}(h:cq c)(n k:Nat)(hn:n≤100):Tot (zf c (n:Int) (k:Int)) (fun y=>SmS y.1∧cq y.2.1):=by
 have L1:∀ {c:bS} {s:bJ},cq c→SmS s→Tot (kY c cG s) (fun y=>SmS y.1∧cq y.2.1):=fun {c s} hc hs=>by
  rw[WK];exact ts ⟨hs,hc⟩
 have cell:∀ {s:bJ} (hs:SmS s) (hl:s.Cells.length≤99) (n:Int) (k:List Int),Bt k→SmS ⟨s.Vars,List.append s.Cells [bA.mk n k cA],s.Nr,s.Err⟩:=fun {s} hs hl n k hk=>by
  refine⟨hs.1,?_,fun x hx=>?_⟩
  ·show(s.Cells++[_]).length≤100
   rw[ah,bo];omega
  ·rcases aE.1 (show x∈s.Cells++[_]from hx)with hx | hx
   ·exact hs.2.2 x hx
   ·rw[aN.1 hx];exact⟨hk,lI⟩
 have L2:∀ (d:Nat) (c:bS) (s:bJ),cq c→SmS s→41≤s.Cells.length+d→s.Cells.length≤50→Tot (tF c cG s) (fun y=>SmS y.1∧cq y.2.1):=by
  intro d
  induction d with
  | zero =>
   intro c s hc hs hd hl
   rw[Ks]
   refine tb (dJ hc 2 (by omega)) (fun y hy=>?_)
   rw[aw (n:=40+y.1)]
   exact tn (by rw[ab];omega) (L1 hy.2 hs)
  | succ d ih =>
   intro c s hc hs hd hl
   rw[Ks]
   refine tb (dJ hc 2 (by omega)) (fun y hy=>?_)
   rw[aw (n:=40+y.1),aw (n:=100+(s.Cells.length:Int))]
   refine ti (fun c2=>?_) (fun _=>L1 hy.2 hs)
   rw[ab]at c2
   rw[show(100:Int)+(s.Cells.length:Int)=((100+s.Cells.length:Nat):Int) by omega,xd _ (by omega),aa]
   refine tc (by rw[ce];omega) (ih _ _ hy.2 (cell hs (by omega) _ _ (vM _)) ?_ ?_)
   ·show 41≤(s.Cells++[_]).length+d
    rw[ah,bo];omega
   ·show(s.Cells++[_]).length≤50
    rw[ah,bo];omega
 rw[WL]
 refine tb (YJ h n k hn) (fun s hs=>?_)
 have sm:=Lr (by omega) hs.1
 have h1:=hs.1.1.1
 have h2:=hs.1.2.1
 refine tb (dJ hs.2 14 (by omega)) (fun y hy=>ti (fun _=>tb (dJ hy.2 10 (by omega)) (fun z hz=>L1 hz.2 sm)) (fun _=>ti (fun _=>tb (mr hy.2 _ (by simp)) (fun z hz=>L1 hz.2 sm)) (fun _=>ti (fun _=>tb (Y9 hy.2) (fun z hz=>tc (by rw[ce];omega) (L1 hz.2 ⟨⟨?_,fun x hx=>?_⟩,sm.2⟩))) (fun _=>ti (fun _=>tb (dJ hy.2 3 (by omega)) (fun z hz=>tb (GQ hz.2) (fun u hu=>tc (by rw[ce];omega) (L1 hu.2 (cell sm (by omega) _ _ hu.1.2))))) (fun _=>ti (fun _=>L2 41 _ _ hy.2 sm (by omega) (by omega)) (fun _=>L1 hy.2 sm))))))
 ·show(s.1.Vars++[_]).length≤100
  rw[ah,bo];omega
 ·rcases aE.1 (show x∈s.1.Vars++[_]from hx)with hx | hx
  ·exact sm.1.2 x hx
  ·rw[aN.1 hx];exact hz.1
theorem Yp(l:List Int)(hl:l.length≤1000000):xg l l=some (true,()):=by
 have key:∀ (d i:Nat),i+d=l.length→sr l l (i:Int)=some (true,()):=by
  intro d
  induction d with
  | zero=>intro i hd;rw[Ik,av]
  | succ d ih =>
   intro i hd
   have hi:i<l.length:=by omega
   rw[Ik,au,ap,ap,bz (by simp),cF hi (by omega)]
   exact ih (i+1) (by omega)
 rw[Qv,bz (by simp)]
 exact key l.length 0 (by omega)
theorem Yr(s:bJ)(h1:s.Vars.length≤1000000)(h2:s.Cells.length≤1000000):xi s s=some (true,()):=by
 have L2:∀ (d i:Nat),i+d=s.Cells.length→sv (i:Int) s s=some (true,()):=by
  intro d
  induction d with
  | zero=>intro i hd;rw[Im,av]
  | succ d ih =>
   intro i hd
   have hi:i<s.Cells.length:=by omega
   rw[Im,au,ap,ap,bz (by simp),cF hi (by omega)]
   exact ih (i+1) (by omega)
 have L1:∀ (d i:Nat),i+d=s.Vars.length→su (i:Int) s s=some (true,()):=by
  intro d
  induction d with
  | zero =>
   intro i hd
   rw[Il,av]
   exact L2 s.Cells.length 0 (by omega)
  | succ d ih =>
   intro i hd
   have hi:i<s.Vars.length:=by omega
   rw[Il,au,ap,ap,bz (by simp),cF hi (by omega)]
   exact ih (i+1) (by omega)
 rw[Qx,bz (by simp),bz (by simp),bz (by simp),bz (by simp)]
 exact L1 s.Vars.length 0 (by omega)
theorem Yq(p:bG)(m:bC)(h1:m.State.Vars.length≤1000000)(h2:m.State.Cells.length≤1000000)(h3:m.Done.length≤1000000):xh p m m=some (true,()):=by
 rw[Qw,Yr _ h1 h2,aa,bw rfl,Yp _ h3,aa,bw rfl,ac rfl]
def SmM(m:bC):Prop:=SmS m.State∧m.Done.length≤100∧(m.Out.length≤10000∧Bt m.Out)
theorem SmM.big{m:bC}(h:SmM m):lA m:=⟨h.1.big,by have:=h.2.1;omega,by have:=h.2.2.1;omega⟩
theorem IE{nv:Nat}(hn:nv≤8){m:bC}(h:McW nv m):SmM m:=⟨Lr hn h.1,by have:=h.2.1;omega,by have:=h.2.2.1;omega,h.2.2.2⟩
theorem Gi{m:bC}(h:SmM m):Bt (eQ m):=by
 unfold eQ gq gr
 refine eF (rj _ (fun _=>True) (fun a x ha _=>eF ha (iP _)) _ _ (eF (eF (rj _ (fun c:bA=>Bt c.Key∧Bt c.Val.S) (fun a x ha hx=>eF (eF (eF ha (iP _)) (rl hx.1)) (eF (eF (iP _) (Gh _)) (rl hx.2))) _ _ (eF (rj _ (fun v:bL=>Bt v.S) (fun a x ha hx=>?_) _ _ (iP _) h.1.1.2) (iP _)) h.1.2.2) (iP _)) (iP _)) (fun _ _=>trivial)) (rl h.2.2.2)
 exact eF ha (eF (eF (iP _) (Gh _)) (rl hx))
theorem Uu(m:bC):0<(dA m.Out).length:=by
 unfold dA
 rw[ah]
 by_cases h:m.Out.length=0
 ·rw[h];decide
 ·omega
theorem Ut(p:bG)(m:bC):decide (((gy p m).length:Int)>0)=eH p m:=by
 unfold gy
 cases eH p m with
 | false=>rfl
 | true =>
  rw[bw rfl]
  have:=Uu m
  unfold eQ
  rw[ah]
  exact ac (by omega)
theorem Uv{p:bG}(hp:gi p){m:bC}(hm:SmM m)(h:eH p m=true):kC p (eQ m)=some (m,true,()):=by
 have hin:=TS hp h
 have hw:Bytes (eQ m):=Gi hm
 have hl:=IC (mi h)
 have hr:=Uz hin
 rcases HH (by omega) hw p with ⟨_,h2⟩ | h1
 ·rcases h2 m _ hr with h3 | h3
  ·have:=hin.vars.1;omega
  ·have:=hin.cells.1;omega
 ·rw[h1,hr]
  unfold iS
  dsimp only
  have hb:=hm.big
  rw[ac rfl,bz (by decide),kE p m hp hb.1 hb.2.1,aa,h]
  dsimp only
  rw[bz (by decide)]
set_option maxRecDepth 1000000
def nmC(l:List (List Int)):Bool:=decide (l.length≤100)&&l.all fun t=>decide (t.length≤300)
def Ll(s:List Int):Bool:=match (nl 300).s_Build s with
 | some (p,_,_)=>nmC p.Vars&&nmC p.Cells
 | none=>false
theorem YE:(srcs.all Ll)=true:=by kernel_rfl
def NmW(l:List (List Int)):Prop:=l.length≤100∧∀ t∈l,t.length≤300
theorem IL{l:List (List Int)}(h:nmC l=true):NmW l:=by
 unfold nmC at h
 rw[aD,ab]at h
 exact⟨h.1,fun t ht=>of_decide_eq_true (List.all_eq_true.1 h.2 t ht)⟩
theorem M3{s:List Int}(h:s∈srcs):Tot (s_Build s) (fun y=>NmW y.1.Vars∧NmW y.1.Cells):=by
 have h2:=List.all_eq_true.1 YE s h
 unfold Ll at h2
 split at h2
 ·rename_i p c u e
  rw[aD]at h2
  exact te ((bZ 300).s_Build _ _ e) ⟨IL h2.1,IL h2.2⟩
 ·cases h2
theorem YV{α:Type}{x:Option α}{P Q:α→Prop}(h:Tot x P)(k:Tot x Q):Tot x (fun y=>P y∧Q y):=by
 obtain⟨y,e,hy⟩:=h
 obtain⟨z,e2,hz⟩:=k
 rw[e]at e2
 cases e2
 exact⟨y,e,hy,hz⟩
def RiP(p:bG):Prop:=(PrW p∧s_ProgOk p=some (true,()))∧NmW p.Vars∧NmW p.Cells
theorem Jw{c:bS}(h:cq c):Tot (tM c) (fun y=>RiP y.1∧cq y.2.1):=by
 rw[Xd,KR,Lp,aa]
 dsimp only
 obtain⟨x,c',e,k,m⟩:=xG h srcs (by simp[srcs])
 rw[e,aa,aa]
 exact tb (YV (Gj m) (M3 m)) (fun y hy=>ts ⟨hy,k⟩)
theorem Jv{c:bS}(h:cq c):Tot (tT c) (fun y=>RiP y.1∧McW y.1.Vars.length y.2.1∧cq y.2.2.1):=by
 rw[Xy]
 exact tb (Jw h) (fun y hy=>tb (Nq hy.2 8 (by omega)) (fun z hz=>tb (TQ hy.1.1.1 hy.1.1.2 (by have:=hz.1.1;omega) hz.1.2) (fun m hm=>ts ⟨hy.1,hm,hz.2⟩)))
def SmO(o:bE):Prop:=Bt o.S∧o.S.length≤1000
def SmL(l:List bE):Prop:=l.length≤200000∧∀ o∈l,SmO o
theorem SmL.big{l:List bE}(h:SmL l):m0 l:=⟨by have:=h.1;omega,fun o ho=>⟨(h.2 o ho).1,by have:=(h.2 o ho).2;omega⟩⟩
theorem yb{nv:Int}{l:List bE}(h:rc nv l):SmL l:=⟨by have:=h.1.2;omega,fun o ho=>by
 obtain⟨i,hi,rfl⟩:=bq.1 ho
 have:=(h.2 i hi).text
 exact⟨this.2,by have:=this.1;omega⟩⟩
theorem Le{l:List bE}(h:SmL l)(i:Nat):SmO (l.getD i de):=by
 by_cases c:i<l.length
 ·rw[dj c];exact h.2 _ (aZ c)
 ·rw[List.getD_eq_getElem?_getD,List.getElem?_eq_none (by omega)];exact⟨lI,by decide⟩
theorem ut{l:List bE}(h:SmL l)(i:Nat){o:bE}(ho:SmO o):SmL (List.set l i o):=⟨by rw[a8];exact h.1,fun x hx=>by
 rcases List.mem_or_eq_of_mem_set hx with hx | rfl
 ·exact h.2 x hx
 ·exact ho⟩
theorem YA{l:List bE}(h:SmL l)(i:Nat):SmL (List.take i l):=⟨by rw[aU];have:=h.1;omega,fun x hx=>h.2 x (List.mem_of_mem_take hx)⟩
theorem NQ{c:bS}(h:cq c):Tot (zq c) (fun y=>(y.1.length≤100000∧SmL y.1)∧cq y.2.2.2.1):=by
 rw[W4,Yj,KR,Lp,aa]
 dsimp only
 obtain⟨x,c',e,k,m⟩:=xG h srcs (by simp[srcs])
 rw[e,aa,aa]
 refine tb (P:=fun r=>Tot (my r.1) (fun z=>PrW z.1∧s_ProgOk z.1=some (true,()))∧cq r.2.1) (tb (NJ m) (fun y hy=>ts ⟨hy,k⟩)) (fun r hr=>tb hr.1 (fun z hz=>?_))
 have h1:=hz.1.main.1.2
 exact tc (by rw[ce];omega) (ts ⟨⟨h1,yb hz.1.main⟩,hr.2⟩)
theorem NR{c:bS}(h:cq c):Tot (zp c) (fun y=>SmL y.1∧cq y.2.2.2.1):=by
 have L1:∀ {l:List bE} {a b:Int} {c:bS},SmL l→cq c→Tot (jW l a b c) (fun y=>SmL y.1∧cq y.2.2.2.1):=fun {l a b c} hl hc=>by
  rw[W5];exact ts ⟨hl,hc⟩
 rw[W6]
 refine tb (NQ h) (fun y hy=>ti (fun _=>ts ⟨hy.1.2,hy.2⟩) (fun c0=>?_))
 rw[ab]at c0
 have hl:=hy.1.1
 have hpos:0<(y.1.length:Int):=by omega
 refine tb (dJ hy.2 _ hpos) (fun k hk=>tb (dJ hk.2 12 (by omega)) (fun q hq=>ti (fun _=>?_) (fun _=>ti (fun _=>?_) (fun _=>ti (fun _=>?_) (fun _=>ti (fun _=>?_) (fun _=>ti (fun _=>?_) (fun _=>ti (fun _=>?_) (fun _=>?_))))))))
 ·exact tb (dJ hq.2 39 (by omega)) (fun z hz=>tc hk.1 (L1 (ut hy.1.2 _ (Le hy.1.2 _)) hz.2))
 ·exact tb (mr hq.2 _ (by simp)) (fun z hz=>tc hk.1 (L1 (ut hy.1.2 _ (Le hy.1.2 _)) hz.2))
 ·refine tb (kQ hq.2 _ (by simp)) (fun z hz=>tc hk.1 (L1 (ut hy.1.2 _ ?_) hz.2))
  have:=kL (n:=300) (by decide) hz.1
  exact⟨this.2,by have:=this.1;show z.1.length≤1000;omega⟩
 ·rw[aw (n:=(y.1.length:Int)-1)]
  exact tc (by omega) (L1 (YA hy.1.2 _) hq.2)
 ·exact tb (dJ hq.2 5 (by omega)) (fun z hz=>L1 hy.1.2 hz.2)
 ·exact tb (dJ hq.2 4 (by omega)) (fun z hz=>L1 hy.1.2 hz.2)
 ·exact L1 hy.1.2 hq.2
def SmN(l:List (List Int)):Prop:=l.length≤200∧∀ t∈l,t.length≤400
def SmP(p:bG):Prop:=(SmN p.Vars∧SmN p.Cells)∧SmL p.Start∧SmL p.Main
theorem SmP.big{p:bG}(h:SmP p):gi p:=⟨⟨by have:=h.1.1.1;omega,fun s hs=>by have:=h.1.1.2 s hs;omega⟩,⟨by have:=h.1.2.1;omega,fun s hs=>by have:=h.1.2.2 s hs;omega⟩,h.2.1.big,h.2.2.big⟩
theorem NmW.sm{l:List (List Int)}(h:NmW l):SmN l:=⟨by have:=h.1;omega,fun t ht=>by have:=h.2 t ht;omega⟩
theorem RiP.sm{p:bG}(h:RiP p):SmP p:=⟨⟨h.2.1.sm,h.2.2.sm⟩,yb h.1.1.start,yb h.1.1.main⟩
theorem IM{l:List (List Int)}(h:NmW l){t:List Int}(ht:t.length≤300):SmN (List.append l [t]):=⟨by
 show(l++[_]).length≤200
 rw[ah,bo];have:=h.1;omega,fun x hx=>by
 rcases aE.1 (show x∈l++[_]from hx)with hx | hx
 ·have:=h.2 x hx;omega
 ·rw[aN.1 hx];omega⟩
theorem NS{c:bS}(h:cq c):Tot (zv c) (fun y=>SmP y.1∧cq y.2.1):=by
 have L1:∀ {a:bG} {v k:List (List Int)} {s m:List bE} {c:bS},SmP ⟨v,k,s,m⟩→cq c→Tot (k9 c a v k s m) (fun y=>SmP y.1∧cq y.2.1):=fun {a v k s m c} hp hc=>by
  rw[Xe];exact ts ⟨hp,hc⟩
 rw[Xf]
 refine tb (Jw h) (fun y hy=>tb (dJ hy.2 12 (by omega)) (fun q hq=>?_))
 have sm:=hy.1.sm
 have hm:=hy.1.1.1.main.1.2
 refine ti (fun _=>?_) (fun _=>ti (fun _=>?_) (fun _=>ti (fun _=>?_) (fun _=>ti (fun _=>?_) (fun _=>ti (fun _=>?_) (fun _=>?_)))))
 ·exact tb (NR hq.2) (fun z hz=>L1 ⟨sm.1,sm.2.1,hz.1⟩ hz.2)
 ·refine tb (kQ hq.2 _ (by simp)) (fun z hz=>tc (by have:=sm.1.1.1;rw[ce];omega) (L1 ⟨⟨IM hy.1.2.1 (kL (n:=300) (by decide) hz.1).1,sm.1.2⟩,sm.2⟩ hz.2))
 ·refine tb (kQ hq.2 _ (by simp)) (fun z hz=>tc (by have:=sm.1.2.1;rw[ce];omega) (L1 ⟨⟨sm.1.1,IM hy.1.2.2 (kL (n:=300) (by decide) hz.1).1⟩,sm.2⟩ hz.2))
 ·exact L1 ⟨sm.1,⟨by simp,fun o ho=>by cases ho⟩,sm.2.2⟩ hq.2
 ·have hl:(List.append y.1.Main [(bE.mk 12 0 []),(bE.mk 36 0 [])]).length=y.1.Main.length+2:=by
   show(y.1.Main++_).length=_
   rw[ah];rfl
  have hz:SmO (bE.mk 12 0 []):=⟨lI,by decide⟩
  refine tc (by rw[ce];omega) (tc (by rw[hl];omega) (L1 ⟨sm.1,sm.2.1,ut ⟨by rw[hl];omega,fun o ho=>?_⟩ 0 hz⟩ hq.2))
  rcases aE.1 (show o∈y.1.Main++_ from ho)with ho | ho
  ·exact sm.2.2.2 o ho
  ·rcases aO.1 ho with rfl | ho
   ·exact hz
   ·rw[aN.1 ho];exact hz
 ·exact L1 sm hq.2
theorem NT{c:bS}(h:cq c):Tot (zT c) (fun y=>SmP y.1∧SmM y.2.1):=by
 have L1:∀ {a:bG} {x:bC} {p:bG} {s:bJ} {d o:List Int} {c:bS},SmP p→SmM ⟨s,d,o⟩→Tot (lf c a x p s d o) (fun y=>SmP y.1∧SmM y.2.1):=fun {a x p s d o c} hp hm=>by
  rw[Xz];exact ts ⟨hp,hm⟩
 have L2:∀ (d:Nat) (c:bS) (a:bG) (x:bC) (p:bG) (m:bC),cq c→SmP p→SmM m→m.Out.length≤1600→1502≤m.Out.length+d→Tot (tU c a x p m) (fun y=>SmP y.1∧SmM y.2.1):=by
  intro d
  induction d with
  | zero =>
   intro c a x p m hc hp hm ho hd
   rw[KA]
   refine tb (dJ hc 2 (by omega)) (fun y hy=>?_)
   rw[aw (n:=1500+y.1)]
   exact tn (by rw[ab];omega) (L1 hp hm)
  | succ d ih =>
   intro c a x p m hc hp hm ho hd
   rw[KA]
   refine tb (dJ hc 2 (by omega)) (fun y hy=>?_)
   rw[aw (n:=1500+y.1)]
   refine ti (fun c2=>?_) (fun _=>L1 hp hm)
   rw[ab]at c2
   refine tc (by rw[bo];omega) (ih _ _ _ _ _ hy.2 hp ⟨hm.1,hm.2.1,?_,eF hm.2.2.2 (fun z hz=>by rw[aN.1 hz];omega)⟩ ?_ ?_)
   ·show(m.Out++[_]).length≤_
    rw[ah,bo];omega
   ·show(m.Out++[_]).length≤_
    rw[ah,bo];omega
   ·show 1502≤(m.Out++[_]).length+d
    rw[ah,bo];omega
 rw[XA]
 refine tb (Jv h) (fun y hy=>?_)
 have hv:y.1.Vars.length≤8:=hy.1.1.1.names
 have sp:=hy.1.sm
 have sm:=IE hv hy.2.1
 have hd:=hy.2.1.2.1
 have ho:=hy.2.1.2.2.1
 refine tb (dJ hy.2.2 14 (by omega)) (fun q hq=>ti (fun _=>?_) (fun _=>ti (fun _=>?_) (fun _=>ti (fun _=>?_) (fun _=>ti (fun _=>?_) (fun _=>ti (fun _=>?_) (fun _=>?_))))))
 ·exact tb (YK hq.2 _ _ (by omega)) (fun z hz=>L1 sp ⟨hz.1,sm.2⟩)
 ·refine tc (by rw[ce];omega) (L1 sp ⟨sm.1,?_,sm.2.2⟩)
  show(y.2.1.Done++[_]).length≤100
  rw[ah,bo];omega
 ·refine tb (mr hq.2 _ (by simp)) (fun z hz=>tc (by omega) (L1 sp ⟨sm.1,?_,sm.2.2⟩))
  show(List.set _ _ _).length≤100
  rw[a8];omega
 ·exact L2 1502 _ _ _ _ _ hq.2 sp sm (by omega) (by omega)
 ·exact tb (NS hq.2) (fun z hz=>L1 hz.1 sm)
 ·exact L1 sp sm
end Go.Proofs.YtemajhlhgphhjaaGreatDoor.E.TM
