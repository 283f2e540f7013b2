/- The engine (code,functions,laws). No condition. -/
import Derived.Test.YtemajhlhgphhjaaGreatDoorEG3
import Derived.Deep.Slices
import Derived.ProofKit
import Derived.Below
import Derived.WideShapes
import Derived.Lib.Bytealg
import Derived.Shelf.Strconv.Itoa3
import Derived.Shelf.Sort.Plain
import Derived.Shelf.Slices.In.SortNone
import Derived.Shelf.Strings.Search3
import Derived.Shelf.LaysM
namespace Go.Proofs.YtemajhlhgphhjaaGreatDoor.E
set_option linter.unusedVariables false
set_option linter.defProp false
section
def aX:=@Bool.not_eq_true
def a7:=@List.drop_eq_nil_of_le
def bq:=@List.mem_iff_getElem
section
variable {E:Env} {Fa:cr E.Z} {C:Ctx} {σ σ1:St E.G} {a:Act} {w:World} {S:Nat→Prop} {F:Nat→List Nat} {V v V0:Nat→Value} {L:List Nat} {fn:Fn}
def fA(S:Nat→Prop)(w:World)(V:Nat→Value)(v:Nat→Value)(V0:Nat→Value)(np:Nat):List Form→List (DV E.G.T)→List Nat→Prop
 | [],ds,F=>ds=[]∧F=[]
 | .val t b::fs,ds,F=>b.cp E.G=true∧∃ (d:DV E.G.T) (ds':List (DV E.G.T)) (F1 F2:List Nat),ds=d::ds'∧F=F1++F2∧RepB S w d.b d.x (v t).cells.toList F1∧Shaped d.b (v t)∧fA S w V v V0 np fs ds' F2
 | .own t id b::fs,ds,F=>cI id fs=false∧(id<16*np→v t=V id)∧∃ (d:DV E.G.T) (ds':List (DV E.G.T)) (F1 F2:List Nat),ds=d::ds'∧F=F1++F2∧RepB S w d.b d.x (v t).cells.toList F1∧Shaped d.b (v t)∧fA S w V v V0 np fs ds' F2
 | .slot id b box orig::fs,ds,F=>cI id fs=false∧∃ (d:DV E.G.T) (ds':List (DV E.G.T)) (F1 F2:List Nat),ds=d::ds'∧F=F1++F2∧dw S w box d (V id) F1 ∧
   (∀ i,orig=some i→box=true→∀ (x:Slot E.G) cs ad,x.box=box→Root w x (V id) cs ad→cs=(V0 (16*i)).cells.toList)∧fA S w V v V0 np fs ds' F2
 | .ptr t id::fs,ds,F=>dz id fs=true∧v t=V id∧fA S w V v V0 np fs ds F
 | .ali t t1::fs,ds,F=>v t=v t1∧fA S w V v V0 np fs ds F
 | .clo t f ids::fs,ds,F=>(∀ id∈ids,dz id fs=true)∧(∃ vs:Array Value,v t = .func (.func f) #[] vs∧vs.toList=ids.map V)∧fA S w V v V0 np fs ds F
 | .wrd id id'::fs,ds,F=>(dz id fs=true∧dz id' fs=true)∧lE w (V id) (V id')∧fA S w V v V0 np fs ds F
 | .frz _ _ _::_,_,_=>False
theorem F5{o o':Option Nat}(h:oV o o'=true):o=o':=by
 cases o <;> cases o' <;> simp[oV]at h
 ·rfl
 ·rw[h]
theorem xc(h:Ok C σ a w S F V)(hL:Loose C w S F L){s:Nat}{d:DV E.G.T}(hc:(σ.slot s).cont = .data d):∃ F1,Ok C (σ.setS s { σ.slot s with gen:=(σ.slot s).gen+1,cont:=.dead }) a w S F1 V∧Loose C w S F1 (F s++L):=by
 obtain⟨σk,Fk,k1,k2,k3,k4,k5⟩:=xa [⟨s,[],false,false⟩] σ F L h hL (fun u hu=>by
  have:u=⟨s,[],false,false⟩:=by simpa using hu
  subst this;exact⟨d,hc⟩) (List.pairwise_singleton ..)
 have e:σk=σ.setS s { σ.slot s with gen:=(σ.slot s).gen+1,cont:=.dead }:=by
  have h1:σk.slot=(σ.setS s { σ.slot s with gen:=(σ.slot s).gen+1,cont:=.dead }).slot:=by
   funext s'
   rw[St.setS_slot]
   by_cases es:s'=s
   ·subst es;rw[ck];exact k5 ⟨s',[],false,false⟩ (by simp)
   ·rw[cj _ _ es]
    exact(k4 s' fun u hu e=>by
     have:u=⟨s,[],false,false⟩:=by simpa using hu
     subst this;exact es e.symm).1
  cases σk
  simp only at h1 k3
  rw[h1,k3];rfl
 rw[e]at k1
 refine⟨Fk,k1,?_⟩
 simpa using k2
theorem Gp(h:Ok C σ a w S F V):∀ (caps:List (bX E)) (ids:List Nat) (vs:List Value) (σ1:St E.G),PinsOK S w σ.slot V caps vs→(rn (E:=E) caps ids).run Fa σ=some ((),σ1)→σ1=σ∧vs=ids.map V
 | [],[],vs,σ1,hp,hm=>by
  obtain⟨_,rfl⟩:=aB (F:=Fa) hm
  exact⟨rfl,hp⟩
 | [],_::_,vs,σ1,hp,hm=>aA (F:=Fa) hm
 | p::ps,ids,vs,σ1,hp,hm=>by
  have hcase:∃ s g i is,p = .ptr s [] 0 g∧ids=i::is:=by
   cases ids with
   | nil=>cases p with
    | ptr s q off g=>cases q with
     | nil=>cases off with
      | zero=>exact aA (F:=Fa) hm
      | succ n=>exact aA (F:=Fa) hm
     | cons _ _=>exact aA (F:=Fa) hm
    | _=>exact aA (F:=Fa) hm
   | cons i is=>cases p with
    | ptr s q off g=>cases q with
     | nil=>cases off with
      | zero=>exact⟨s,g,i,is,rfl,rfl⟩
      | succ n=>exact aA (F:=Fa) hm
     | cons _ _=>exact aA (F:=Fa) hm
    | _=>exact aA (F:=Fa) hm
  obtain⟨s,g,i,is,rfl,rfl⟩:=hcase
  obtain⟨u,vs',rfl,hp1,hp2⟩:=hp
  obtain⟨hc,hm2⟩:=aC (F:=Fa) (show M.run Fa (need (Nat.beq s i&&(σ.slot s).box&&Nat.ble (σ.slot s).born g) (rn ps is)) σ=some ((),σ1)from hm)
  simp only[aD]at hc
  obtain⟨⟨c1,c2⟩,c3⟩:=hc
  have:=cn c1
  subst this
  obtain⟨_,b,k1,k2⟩:=hp1.2.1 rfl (aG c3)
  obtain⟨e1,e2⟩:=Gp h ps is vs' σ1 hp2 hm2
  exact⟨e1,by rw[bj,e2,k1,k2]⟩
theorem jL(hnp:fn.np=C.np)(hv:∀ t,v t=a.tmps.getD t undef):∀ (fs:List Form) (σ σ1:St E.G) (F:Nat→List Nat) (L:List Nat) (ds:List (DV E.G.T)),Ok C σ a w S F V→Loose C w S F L→(fZ (E:=E) fn fs).run Fa σ=some (ds,σ1) →
  ∃ F1 Fd,Ok C σ1 a w S F1 V∧Loose C w S F1 (Fd++L)∧fA (E:=E) S w V v C.V0 C.np fs ds Fd
 | [],σ,σ1,F,L,ds,h,hL,hm=>by
  obtain⟨rfl,rfl⟩:=aB (F:=Fa) hm
  exact⟨F,[],h,hL,rfl,rfl⟩
 | .val t b::fs,σ,σ1,F,L,ds,h,hL,hm=>by
  obtain⟨hcp,hm2⟩:=aC (F:=Fa) hm
  rw[M.run_getP]at hm2
  obtain⟨d,σ2,h1,h2⟩:=az hm2
  obtain⟨F1,g1,g2,g3,Fd,g4,g5⟩:=jk h hL (h.pins t) h1
  obtain⟨ds',σ3,h3,h4⟩:=az h2
  obtain⟨rfl,rfl⟩:=aB (F:=Fa) h4
  obtain⟨F2,Fd2,k1,k2,k3⟩:=jL hnp hv fs _ _ F1 (Fd++L) ds' g1 g5 h3
  exact⟨F2,Fd++Fd2,k1,kK k2,hcp,d,ds',Fd,Fd2,rfl,rfl,by rw[hv];exact g4,by rw[hv];exact g3,k3⟩
 | .own t id b::fs,σ,σ1,F,L,ds,h,hL,hm=>by
  obtain⟨hno,hm2⟩:=aC (F:=Fa) hm
  rw[M.run_getP,M.run_getS]at hm2
  obtain⟨hid,hm3⟩:=aC (F:=Fa) hm2
  obtain⟨d,σ2,h1,h2⟩:=az hm3
  have hvid:id<16*C.np→v t=V id:=by
   intro hlt
   have hlt':Nat.blt id (16*fn.np)=true:=by rw[hnp];exact Nat.ble_eq_true_of_le hlt
   rw[hlt']at hid
   simp only[Bool.not_true,Bool.false_or,aD,Bool.not_eq_true']at hid
   obtain⟨i1,i2⟩:=hid
   have hp:=h.pins t
   cases hpt:σ.pin t with
   | ali s q g =>
    rw[hpt]at i1 h1 hp
    cases q with
    | nil =>
     have e:=cn i1
     subst e
     have hcur:=Lv h1
     simp only[dK,i2,cond_false]at hcur
     rw[hv]
     exact hp.2.1 rfl i2 (aG hcur)
    | cons _ _=>cases i1
   | _=>rw[hpt]at i1;cases i1
  obtain⟨F1,g1,g2,g3,Fd,g4,g5⟩:=jk h hL (h.pins t) h1
  obtain⟨ds',σ3,h3,h4⟩:=az h2
  obtain⟨rfl,rfl⟩:=aB (F:=Fa) h4
  obtain⟨F2,Fd2,k1,k2,k3⟩:=jL hnp hv fs _ _ F1 (Fd++L) ds' g1 g5 h3
  exact⟨F2,Fd++Fd2,k1,kK k2,by simpa using hno,hvid,d,ds',Fd,Fd2,rfl,rfl,by rw[hv];exact g4,by rw[hv];exact g3,k3⟩
 | .slot id b box orig::fs,σ,σ1,F,L,ds,h,hL,hm=>by
  obtain⟨hno,hm2⟩:=aC (F:=Fa) hm
  have hm3:M.run Fa (match (σ.slot id).cont with
   | .data d=>need (((σ.slot id).box==box)&&(!orig.isSome||oV (σ.slot id).orig orig)) (.setS id { σ.slot id with gen:=(σ.slot id).gen+1,cont:=.dead } ((fZ (E:=E) fn fs).bind fun ds=>.ret (d::ds)))
   | _=>.fail) σ=some (ds,σ1):=hm2
  cases hc:(σ.slot id).cont with
  | dead=>rw[hc]at hm3;exact aA (F:=Fa) hm3
  | word _=>rw[hc]at hm3;exact aA (F:=Fa) hm3
  | frz _=>rw[hc]at hm3;exact aA (F:=Fa) hm3
  | data d =>
   rw[hc]at hm3
   obtain⟨hb,hm4⟩:=aC hm3
   simp only[aD,beq_iff_eq,aY,Bool.not_eq_true']at hb
   obtain⟨hb1,hb2⟩:=hb
   rw[M.run_setS]at hm4
   obtain⟨ds',σ3,h3,h4⟩:=az hm4
   obtain⟨rfl,rfl⟩:=aB (F:=Fa) h4
   obtain⟨F1,g1,g2⟩:=xc h hL hc
   obtain⟨F2,Fd2,k1,k2,k3⟩:=jL hnp hv fs _ _ F1 (F id++L) ds' g1 g2 h3
   have hd:=(j5 hc).1 (h.slots id)
   rw[hb1]at hd
   refine⟨F2,F id++Fd2,k1,kK k2,by simpa using hno,d,ds',F id,Fd2,rfl,rfl,hd,fun i hi hbx x cs ad hx hr=>?_,k3⟩
   have ho:(σ.slot id).orig=some i:=by
    rcases hb2 with hb2 | hb2
    ·rw[hi]at hb2;cases hb2
    ·rw[F5 hb2,hi]
   refine h.orig id i ho (by rw[hb1];exact hbx) (by rw[hc];simp) cs ad ?_
   unfold Root at hr ⊢
   rw[hb1];rw[hx]at hr;exact hr
 | .ptr t id::fs,σ,σ1,F,L,ds,h,hL,hm=>by
  obtain⟨hbx,hm2⟩:=aC (F:=Fa) hm
  rw[M.run_getP]at hm2
  have hp:=h.pins t
  cases hpt:σ.pin t with
  | ptr s q off g =>
   rw[hpt]at hm2 hp
   cases q with
   | nil=>cases off with
    | zero =>
     obtain⟨hc,hm3⟩:=aC (F:=Fa) (show M.run Fa (need (Nat.beq s id&&(σ.slot s).box&&Nat.ble (σ.slot s).born g) (fZ (E:=E) fn fs)) σ=some (ds,σ1)from hm2)
     simp only[aD]at hc
     obtain⟨⟨c1,c2⟩,c3⟩:=hc
     have:=cn c1
     subst this
     obtain⟨_,b,k1,k2⟩:=hp.2.1 rfl (aG c3)
     obtain⟨F2,Fd2,m1,m2,m3⟩:=jL hnp hv fs σ σ1 F L ds h hL hm3
     exact⟨F2,Fd2,m1,m2,hbx,by rw[hv,k1,k2],m3⟩
    | succ n=>exact aA (F:=Fa) hm2
   | cons _ _=>exact aA (F:=Fa) hm2
  | _=>rw[hpt]at hm2;exact aA (F:=Fa) hm2
 | .ali t t1::fs,σ,σ1,F,L,ds,h,hL,hm=>by
  have hm2:M.run Fa (match σ.pin t,σ.pin t1 with
   | .ali s [] g,.ali s1 [] g1=>.getS s fun x=>need (Nat.beq s s1 && !x.box&&Nat.ble x.born g&&Nat.ble x.born g1) (fZ (E:=E) fn fs)
   | _,_=>.fail) σ=some (ds,σ1):=hm
  have hp:=h.pins t
  have hp1:=h.pins t1
  split at hm2
  ·rename_i s g s1 g1 e1 e2
   rw[M.run_getS]at hm2
   obtain⟨hc,hm3⟩:=aC hm2
   simp only[aD,Bool.not_eq_true']at hc
   obtain⟨⟨⟨c1,c2⟩,c3⟩,c4⟩:=hc
   have:=cn c1
   subst this
   rw[e1]at hp
   rw[e2]at hp1
   obtain⟨F2,Fd2,m1,m2,m3⟩:=jL hnp hv fs σ σ1 F L ds h hL hm3
   refine⟨F2,Fd2,m1,m2,?_,m3⟩
   rw[hv,hv,hp.2.1 rfl c2 (aG c3),hp1.2.1 rfl c2 (aG c4)]
  ·exact aA (F:=Fa) hm2
 | .clo t f ids::fs,σ,σ1,F,L,ds,h,hL,hm=>by
  obtain⟨hbx,hm2⟩:=aC (F:=Fa) hm
  rw[M.run_getP]at hm2
  have hp:=h.pins t
  cases hpt:σ.pin t with
  | clo f' caps =>
   rw[hpt]at hm2 hp
   obtain⟨hf,hm3⟩:=aC (F:=Fa) hm2
   have:=cn hf
   subst this
   obtain⟨_,σ2,h1,h2⟩:=az hm3
   obtain⟨vs,hv1,hv2⟩:=hp
   obtain⟨e1,e2⟩:=Gp h caps ids vs.toList σ2 hv2 h1
   subst e1
   obtain⟨F2,Fd2,m1,m2,m3⟩:=jL hnp hv fs σ2 σ1 F L ds h hL h2
   exact⟨F2,Fd2,m1,m2,List.all_eq_true.1 hbx,⟨vs,by rw[hv];exact hv1,e2⟩,m3⟩
  | _=>rw[hpt]at hm2;exact aA (F:=Fa) hm2
 | .wrd id id'::fs,σ,σ1,F,L,ds,h,hL,hm=>by
  obtain⟨hbx,hm2⟩:=aC (F:=Fa) hm
  simp only[aD]at hbx
  rw[M.run_getP]at hm2
  split at hm2
  ·rename_i s0 gs s' g' hq
   rw[M.run_getS,M.run_getS]at hm2
   obtain⟨hc,hm3⟩:=aC hm2
   simp only[aD]at hc
   obtain⟨c1,c2,c3,c4,c5⟩:=hc
   have c1':=cn c1
   have c2':=cn c2
   subst c1'
   subst c2'
   have hw:=h.pins (wT s0)
   rw[hq]at hw
   have hcell:=(hw.2.2 (cn c3) (aG c5)).2
   unfold fd at hcell
   rw[bw c4]at hcell
   obtain⟨F2,Fd2,m1,m2,m3⟩:=jL hnp hv fs σ σ1 F L ds h hL hm3
   exact⟨F2,Fd2,m1,m2,hbx,hcell,m3⟩
  ·exact aA (F:=Fa) hm2
 | .frz _ _ _::fs,σ,σ1,F,L,ds,h,hL,hm=>aA (F:=Fa) hm
def ovr(V v:Nat→Value):List Form→Nat→Value
 | []=>V
 | .own t id _::fs=>upd (ovr V v fs) id (v t)
 | _::fs=>ovr V v fs
def Fits(V' V v:Nat→Value):List Form→Prop
 | []=>True
 | .own t id _::fs=>V' id=v t∧Fits V' V v fs
 | .slot id _ _ _::fs=>V' id=V id∧Fits V' V v fs
 | .frz _ id _::fs=>V' id=V id∧Fits V' V v fs
 | _::fs=>Fits V' V v fs
theorem Fits.ext{V' V2:Nat→Value}:∀ (fs:List Form),(∀ id,cI id fs=true→V2 id=V' id)→Fits V' V v fs→Fits V2 V v fs
 | [],h,_=>trivial
 | .own t id _::fs,h,hf=>⟨(h id (by simp[cI])).trans hf.1,Fits.ext fs (fun i hi=>h i (by simp[cI,hi])) hf.2⟩
 | .slot id _ _ _::fs,h,hf=>⟨(h id (by simp[cI])).trans hf.1,Fits.ext fs (fun i hi=>h i (by simp[cI,hi])) hf.2⟩
 | .frz _ id _::fs,h,hf=>⟨(h id (by simp[cI])).trans hf.1,Fits.ext fs (fun i hi=>h i (by simp[cI,hi])) hf.2⟩
 | .val _ _::fs,h,hf=>Fits.ext fs h hf
 | .ptr _ _::fs,h,hf=>Fits.ext fs h hf
 | .ali _ _::fs,h,hf=>Fits.ext fs h hf
 | .clo _ _ _::fs,h,hf=>Fits.ext fs h hf
 | .wrd _ _::fs,h,hf=>Fits.ext fs h hf
theorem iY:∀ (fs:List Form) (id:Nat),cI id fs=false→ovr V v fs id=V id
 | [],id,h=>rfl
 | .own t i _::fs,id,h=>by
  simp only[cI,Bool.or_eq_false_iff]at h
  have hne:id≠i:=fun e=>by rw[e]at h;simp at h
  show upd (ovr V v fs) i (v t) id=V id
  rw[cj _ _ hne];exact iY fs id h.2
 | .slot i _ _ _::fs,id,h=>by simp only[cI,Bool.or_eq_false_iff]at h;exact iY fs id h.2
 | .frz _ i _::fs,id,h=>by simp only[cI,Bool.or_eq_false_iff]at h;exact iY fs id h.2
 | .val _ _::fs,id,h=>iY fs id h
 | .ptr _ _::fs,id,h=>iY fs id h
 | .ali _ _::fs,id,h=>iY fs id h
 | .clo _ _ _::fs,id,h=>iY fs id h
 | .wrd _ _::fs,id,h=>iY fs id h
theorem jy{np:Nat}:∀ (fs:List Form) (ds:List (DV E.G.T)) (Fd:List Nat),fA (E:=E) S w V v V0 np fs ds Fd→Fits (ovr V v fs) V v fs
 | [],ds,Fd,h=>trivial
 | .val _ _::fs,ds,Fd,⟨_,d,ds',F1,F2,_,_,_,_,h⟩=>jy fs ds' F2 h
 | .own t id _::fs,ds,Fd,⟨hno,_,d,ds',F1,F2,_,_,_,_,h⟩=>⟨ck _ _ _,Fits.ext fs (fun i hi=>cj _ _ fun e=>by rw[e,hno]at hi;cases hi) (jy fs ds' F2 h)⟩
 | .slot id _ _ _::fs,ds,Fd,⟨hno,d,ds',F1,F2,_,_,_,_,h⟩=>⟨iY fs id hno,jy fs ds' F2 h⟩
 | .ptr _ _::fs,ds,Fd,⟨_,_,h⟩=>jy fs ds Fd h
 | .ali _ _::fs,ds,Fd,⟨_,h⟩=>jy fs ds Fd h
 | .clo _ _ _::fs,ds,Fd,⟨_,_,h⟩=>jy fs ds Fd h
 | .wrd _ _::fs,ds,Fd,⟨_,_,h⟩=>jy fs ds Fd h
 | .frz _ _ _::fs,ds,Fd,h=>h.elim
theorem gO{V':Nat→Value}:∀ (fs:List Form) (id:Nat),Fits V' V v fs→dz id fs=true→V' id=V id
 | [],id,h,hb=>by cases hb
 | .own t i _::fs,id,h,hb=>gO fs id h.2 hb
 | .slot i _ box _::fs,id,h,hb=>by
  simp only[dz,aY,aD]at hb
  rcases hb with ⟨hb,_⟩ | hb
  ·rw[← cn hb];exact h.1
  ·exact gO fs id h.2 hb
 | .frz _ _ _::fs,id,h,hb=>gO fs id h.2 hb
 | .val _ _::fs,id,h,hb=>gO fs id h hb
 | .ptr _ _::fs,id,h,hb=>gO fs id h hb
 | .ali _ _::fs,id,h,hb=>gO fs id h hb
 | .clo _ _ _::fs,id,h,hb=>gO fs id h hb
 | .wrd _ _::fs,id,h,hb=>gO fs id h hb
theorem jJ{np:Nat}:∀ (fs:List Form) (ds:List (DV E.G.T)) (Fd:List Nat),fA (E:=E) S w V v V0 np fs ds Fd→∀ s,s<16*np→ovr V v fs s=V s
 | [],ds,Fd,h,s,hs=>rfl
 | .val _ _::fs,ds,Fd,⟨_,d,ds',F1,F2,_,_,_,_,h⟩,s,hs=>jJ fs ds' F2 h s hs
 | .own t id _::fs,ds,Fd,⟨hno,hlow,d,ds',F1,F2,_,_,_,_,h⟩,s,hs=>by
  show upd (ovr V v fs) id (v t) s=V s
  by_cases e:s=id
  ·subst e;rw[ck];exact hlow hs
  ·rw[cj _ _ e];exact jJ fs ds' F2 h s hs
 | .slot id _ _ _::fs,ds,Fd,⟨hno,d,ds',F1,F2,_,_,_,_,h⟩,s,hs=>jJ fs ds' F2 h s hs
 | .ptr _ _::fs,ds,Fd,⟨_,_,h⟩,s,hs=>jJ fs ds Fd h s hs
 | .ali _ _::fs,ds,Fd,⟨_,h⟩,s,hs=>jJ fs ds Fd h s hs
 | .clo _ _ _::fs,ds,Fd,⟨_,_,h⟩,s,hs=>jJ fs ds Fd h s hs
 | .wrd _ _::fs,ds,Fd,⟨_,_,h⟩,s,hs=>jJ fs ds Fd h s hs
 | .frz _ _ _::fs,ds,Fd,h,s,hs=>h.elim
theorem GK{box:Bool}{b:BT}{d:DV E.G.T}{y:B E.G.T b}{u:Value}{F:List Nat}(h:dw S w box d u F)(hn:F.Nodup)(hy:coB E.G b d=some y) :
  ∃ F' D:List Nat,F'.Sublist F∧(∀ z∈D,z∈F∧z∉F')∧∀ S2:Nat→Prop,(∀ z,S z∨z∈D→S2 z)→dw S2 w box ⟨b,y⟩ u F':=by
 unfold dw at h
 split at h
 ·rename_i hb
  obtain⟨blk,c,E0,Fs,e1,e2,e3,e4⟩:=h
  rw[e3]at hn
  have hn':=List.nodup_cons.1 hn
  obtain⟨F',hsub,k⟩:=gL b d y _ Fs hy e4 hn'.2
  refine⟨blk::F',gM Fs F',by rw[e3];exact hsub.cons_cons _,fun z hz=>?_,fun S2 hS=>?_⟩
  ·obtain⟨k1,k2⟩:=mem_dropped.1 hz
   refine⟨by rw[e3];exact aI _ k1,fun hz'=>?_⟩
   rcases aO.1 hz' with rfl | hz'
   ·exact hn'.1 k1
   ·exact k2 hz'
  ·unfold dw
   rw[bw hb]
   exact⟨blk,c,E0,F',e1,e2,rfl,k S2 (fun z hz=>hS z (.inl hz)) (fun z hz hz'=>hS z (.inr (mem_dropped.2 ⟨hz,hz'⟩)))⟩
 ·rename_i hb
  obtain⟨F',hsub,k⟩:=gL b d y _ F hy h.1 hn
  refine⟨F',gM F F',hsub,fun z hz=>mem_dropped.1 hz,fun S2 hS=>?_⟩
  unfold dw
  rw[bz hb]
  exact⟨k S2 (fun z hz=>hS z (.inl hz)) (fun z hz hz'=>hS z (.inr (mem_dropped.2 ⟨hz,hz'⟩))),kq hy h.2⟩
theorem jK{np:Nat}{V':Nat→Value}:∀ (fs:List Form) (ds:List (DV E.G.T)) (Fd:List Nat) (x:Bs E.G.T (cE fs)),fA (E:=E) S w V v V0 np fs ds Fd→Fits V' V v fs→Fd.Nodup→fv E (cE fs) ds=some x →
  ∃ F' D:List Nat,F'.Sublist Fd∧(∀ z∈D,z∈Fd∧z∉F')∧∀ S2:Nat→Prop,(∀ z,S z∨z∈D→S2 z)→eD S2 w V' v V0 fs (cL (cE fs) x) F'
 | [],ds,Fd,x,h,hf,hn,hc=>by
  obtain⟨rfl,rfl⟩:=h
  exact⟨[],[],List.Sublist.refl _,fun _ h=>(by cases h),fun S2 _=>⟨rfl,rfl⟩⟩
 | .val t b::fs,ds,Fd,x,⟨hcp,d,ds',F1,F2,e1,e2,h1,h2,h⟩,hf,hn,hc=>by
  subst e1;subst e2
  have hn':=aF.1 hn
  obtain⟨y,ys,hy,hys,hx⟩:=nh (b:=b) (bs:=cE fs) hc
  subst hx
  obtain⟨F',D,k1,k2,k3⟩:=jK fs ds' F2 ys h hf hn'.2.1 hys
  obtain⟨G',hsub,k⟩:=gL b d y _ F1 hy h1 hn'.1
  refine⟨F',F1++D,k1.trans (List.sublist_append_right ..),fun z hz=>?_,fun S2 hS=>⟨hcp,y,_,rfl,?_,kq hy h2,k3 S2 fun z hz=>hS z (hz.imp (fun q=>q) (ay _))⟩⟩
  ·rcases aE.1 hz with hz | hz
   ·exact⟨ax _ hz,fun hz'=>hn'.2.2 z hz z (k1.subset hz') rfl⟩
   ·exact⟨ay _ (k2 z hz).1,(k2 z hz).2⟩
  ·have hrep:=k S2 (fun z hz=>hS z (.inl hz)) (fun z hz _=>hS z (.inr (ax _ hz)))
   have e0:=RepB.cp hcp hrep
   rw[e0]at hrep
   exact hrep
 | .own t id b::fs,ds,Fd,x,⟨hno,hlow,d,ds',F1,F2,e1,e2,h1,h2,h⟩,hf,hn,hc=>by
  subst e1;subst e2
  have hn':=aF.1 hn
  obtain⟨y,ys,hy,hys,hx⟩:=nh (b:=b) (bs:=cE fs) hc
  subst hx
  obtain⟨F',D,k1,k2,k3⟩:=jK fs ds' F2 ys h hf.2 hn'.2.1 hys
  obtain⟨G',hsub,k⟩:=gL b d y _ F1 hy h1 hn'.1
  refine⟨G'++F',gM F1 G'++D,hsub.append k1,fun z hz=>?_,fun S2 hS=>⟨hno,y,_,G',F',rfl,rfl,k S2 (fun z hz=>hS z (.inl hz)) (fun z hz hz'=>hS z (.inr (ax _ (mem_dropped.2 ⟨hz,hz'⟩)))),kq hy h2,hf.1,k3 S2 fun z hz=>hS z (hz.imp (fun q=>q) (ay _))⟩⟩
  rcases aE.1 hz with hz | hz
  ·obtain⟨m1,m2⟩:=mem_dropped.1 hz
   refine⟨ax _ m1,fun hz'=>?_⟩
   rcases aE.1 hz' with hz' | hz'
   ·exact m2 hz'
   ·exact hn'.2.2 z m1 z (k1.subset hz') rfl
  ·obtain⟨m1,m2⟩:=k2 z hz
   refine⟨ay _ m1,fun hz'=>?_⟩
   rcases aE.1 hz' with hz' | hz'
   ·exact hn'.2.2 z (hsub.subset hz') z m1 rfl
   ·exact m2 hz'
 | .slot id b box orig::fs,ds,Fd,x,⟨hno,d,ds',F1,F2,e1,e2,h1,h2,h⟩,hf,hn,hc=>by
  subst e1;subst e2
  have hn':=aF.1 hn
  obtain⟨y,ys,hy,hys,hx⟩:=nh (b:=b) (bs:=cE fs) hc
  subst hx
  obtain⟨F',D,k1,k2,k3⟩:=jK fs ds' F2 ys h hf.2 hn'.2.1 hys
  obtain⟨G',D1,hsub,m,k⟩:=GK h1 hn'.1 hy
  refine⟨G'++F',D1++D,hsub.append k1,fun z hz=>?_,fun S2 hS=>⟨hno,y,_,G',F',rfl,rfl,by rw[hf.1];exact k S2 fun z hz=>hS z (hz.imp (fun q=>q) (ax _)),fun i hi hb cs ad hr=>?_,k3 S2 fun z hz=>hS z (hz.imp (fun q=>q) (ay _))⟩⟩
  ·rcases aE.1 hz with hz | hz
   ·obtain⟨m1,m2⟩:=m z hz
    refine⟨ax _ m1,fun hz'=>?_⟩
    rcases aE.1 hz' with hz' | hz'
    ·exact m2 hz'
    ·exact hn'.2.2 z m1 z (k1.subset hz') rfl
   ·obtain⟨m1,m2⟩:=k2 z hz
    refine⟨ay _ m1,fun hz'=>?_⟩
    rcases aE.1 hz' with hz' | hz'
    ·exact hn'.2.2 z (hsub.subset hz') z m1 rfl
    ·exact m2 hz'
  ·rw[hf.1]at hr
   exact h2 i hi hb _ cs ad rfl hr
 | .ptr t id::fs,ds,Fd,x,⟨h1,h2,h⟩,hf,hn,hc=>by
  obtain⟨F',D,k1,k2,k3⟩:=jK fs ds Fd x h hf hn hc
  exact⟨F',D,k1,k2,fun S2 hS=>⟨h1,by rw[h2,gO fs id hf h1],k3 S2 hS⟩⟩
 | .ali t t1::fs,ds,Fd,x,⟨h2,h⟩,hf,hn,hc=>by
  obtain⟨F',D,k1,k2,k3⟩:=jK fs ds Fd x h hf hn hc
  exact⟨F',D,k1,k2,fun S2 hS=>⟨h2,k3 S2 hS⟩⟩
 | .clo t f ids::fs,ds,Fd,x,⟨h1,⟨vs,h2,h3⟩,h⟩,hf,hn,hc=>by
  obtain⟨F',D,k1,k2,k3⟩:=jK fs ds Fd x h hf hn hc
  exact⟨F',D,k1,k2,fun S2 hS=>⟨h1,⟨vs,h2,by rw[h3];exact List.map_congr_left fun id hid=>(gO fs id hf (h1 id hid)).symm⟩,k3 S2 hS⟩⟩
 | .wrd id id'::fs,ds,Fd,x,⟨h1,h2,h⟩,hf,hn,hc=>by
  obtain⟨F',D,k1,k2,k3⟩:=jK fs ds Fd x h hf hn hc
  exact⟨F',D,k1,k2,fun S2 hS=>⟨h1,by rw[gO fs id hf h1.1,gO fs id' hf h1.2];exact h2,k3 S2 hS⟩⟩
 | .frz _ _ _::fs,ds,Fd,x,h,hf,hn,hc=>h.elim
def vb{G:Gam}(S:Nat→Prop)(w:World)(V:Nat→Value)(v:Nat→Value)(V0:Nat→Value):List Form→List (DV G.T)→List Nat→List Nat→Prop
 | .frz t id b::fs,ds,F,Z=>cI id fs=false∧∃ (x:B G.T b) (ds':List (DV G.T)) (Z1 Z2:List Nat),ds=⟨b,x⟩::ds'∧Z=Z1++Z2∧RepB S w b x (v t).cells.toList Z1∧Shaped b (v t)∧V id=v t∧(∀ z∈Z1,S z)∧vb S w V v V0 fs ds' F Z2
 | [],ds,F,Z=>Z=[]∧eD S w V v V0 [] ds F
 | f::fs,ds,F,Z=>Z=[]∧eD S w V v V0 (f::fs) ds F
def q9(S:Nat→Prop)(w:World)(V:Nat→Value)(v:Nat→Value)(V0:Nat→Value)(np:Nat):List Form→List (DV E.G.T)→List Nat→List Nat→Prop
 | .frz t id b::fs,ds,F,Z=>cI id fs=false∧∃ (d:DV E.G.T) (ds':List (DV E.G.T)) (Z1 Z2:List Nat),ds=d::ds'∧Z=Z1++Z2∧RepB S w d.b d.x (v t).cells.toList Z1∧Shaped d.b (v t)∧V id=v t∧(∀ z∈Z1,S z)∧q9 S w V v V0 np fs ds' F Z2
 | [],ds,F,Z=>Z=[]∧fA (E:=E) S w V v V0 np [] ds F
 | f::fs,ds,F,Z=>Z=[]∧fA (E:=E) S w V v V0 np (f::fs) ds F
theorem UC{t id:Nat}{b:BT}{fs:List Form}{ds:List (DV E.G.T)}(hm:(mq (E:=E) fn (.frz t id b::fs)).run Fa σ=some (ds,σ1)) :
  (cI id fs=false∧16*fn.np≤id)∧∃ g d ds',σ.pin t = .ali id [] g∧(σ.slot id).cont = .frz d∧(σ.slot id).box=false∧(σ.slot id).born≤g∧ds=d::ds'∧(mq (E:=E) fn fs).run Fa σ=some (ds',σ1):=by
 obtain⟨hno,hm2⟩:=aC (F:=Fa) hm
 simp only[aD,Bool.not_eq_true']at hno
 rw[M.run_getP]at hm2
 split at hm2
 ·rename_i s g hq
  rw[M.run_getS]at hm2
  split at hm2
  ·rename_i d hc
   obtain⟨hb,hm3⟩:=aC hm2
   simp only[aD,Bool.not_eq_true']at hb
   have e:=cn hb.1
   subst e
   obtain⟨ds',σ3,h3,h4⟩:=az hm3
   obtain⟨rfl,rfl⟩:=aB (F:=Fa) h4
   exact⟨⟨hno.1,aG hno.2⟩,g,d,ds',hq,hc,hb.2.1,aG hb.2.2,rfl,h3⟩
  ·exact aA (F:=Fa) hm2
 ·exact aA (F:=Fa) hm2
theorem UD(hnp:fn.np=C.np)(hv:∀ t,v t=a.tmps.getD t undef)(h:Ok C σ a w S F V):∀ (fs:List Form) (σ1:St E.G) (ds:List (DV E.G.T)),(mq (E:=E) fn fs).run Fa σ=some (ds,σ1) →
  ∃ F1 Fd Z,Ok C σ1 a w S F1 V∧Loose C w S F1 Fd∧q9 (E:=E) S w V v C.V0 C.np fs ds Fd Z∧Z.Nodup∧∀ z∈Z,∃ s,cI s fs=true∧z∈F s:=by
 intro fs
 induction fs with
 | nil =>
  intro σ1 ds hm
  obtain⟨F1,Fd,k1,k2,k3⟩:=jL hnp hv [] σ σ1 F [] ds h Loose.nil hm
  rw[aL]at k2
  exact⟨F1,Fd,[],k1,k2,⟨rfl,k3⟩,List.nodup_nil,fun _ hz=>by cases hz⟩
 | cons f fs ih =>
  intro σ1 ds hm
  by_cases hf:∃ t id b,f = .frz t id b
  ·obtain⟨t,id,b,rfl⟩:=hf
   obtain⟨⟨hno,hid⟩,g,d,ds',h1,h2,h3,h4,rfl,h5⟩:=UC hm
   obtain⟨F1,Fd,Z,k1,k2,k3,k4,k5⟩:=ih σ1 ds' h5
   have hp:=h.pins t
   rw[h1]at hp
   have hV:=hp.2.1 rfl h3 h4
   have hs:=h.slots id
   unfold cO at hs
   rw[h2]at hs
   obtain⟨_,⟨s1,s2⟩,s3⟩:=hs
   refine⟨F1,Fd,F id++Z,k1,k2,⟨hno,d,ds',F id,Z,rfl,rfl,by rw[hv,hV];exact s1,by rw[hv,hV];exact s2,by rw[hv,hV],s3,k3⟩,?_,fun z hz=>?_⟩
   ·refine aF.2 ⟨h.nd id,k4,fun x hx y hy e=>?_⟩
    subst e
    obtain⟨s,hs1,hs2⟩:=k5 x hy
    refine h.apart id s (fun e=>?_) x hx hs2
    rw[← e,hno]at hs1
    cases hs1
   ·rcases aE.1 hz with hz | hz
    ·exact⟨id,by simp[cI],hz⟩
    ·obtain⟨s,hs1,hs2⟩:=k5 z hz
     exact⟨s,by simp[cI,hs1],hs2⟩
  ·have e:mq (E:=E) fn (f::fs)=fZ fn (f::fs):=by cases f <;> first | rfl | exact absurd ⟨_,_,_,rfl⟩ hf
   rw[e]at hm
   obtain⟨F1,Fd,k1,k2,k3⟩:=jL hnp hv (f::fs) σ σ1 F [] ds h Loose.nil hm
   rw[aL]at k2
   refine⟨F1,Fd,[],k1,k2,?_,List.nodup_nil,fun _ hz=>by cases hz⟩
   cases f <;> first | exact⟨rfl,k3⟩ | exact absurd ⟨_,_,_,rfl⟩ hf
theorem UB{np:Nat}{V':Nat→Value}:∀ (fs:List Form) (ds:List (DV E.G.T)) (Fd Z:List Nat) (x:Bs E.G.T (cE fs)),q9 (E:=E) S w V v V0 np fs ds Fd Z→Fits V' V v fs→Fd.Nodup→Z.Nodup→fv E (cE fs) ds=some x →
  ∃ F' D Z':List Nat,F'.Sublist Fd∧(∀ z∈D,z∈Fd∧z∉F')∧Z'.Sublist Z∧∀ S2:Nat→Prop,(∀ z,S z∨z∈D→S2 z)→vb S2 w V' v V0 fs (cL (cE fs) x) F' Z':=by
 intro fs
 induction fs with
 | nil =>
  intro ds Fd Z x h hf hn hz hc
  obtain⟨rfl,h⟩:=h
  obtain⟨F',D,k1,k2,k3⟩:=jK [] ds Fd x h hf hn hc
  exact⟨F',D,[],k1,k2,List.Sublist.refl _,fun S2 hS=>⟨rfl,k3 S2 hS⟩⟩
 | cons f fs ih =>
  intro ds Fd Z x h hf hn hz hc
  by_cases hfz:∃ t id b,f = .frz t id b
  ·obtain⟨t,id,b,rfl⟩:=hfz
   obtain⟨hno,d,ds',Z1,Z2,rfl,rfl,h1,h2,h3,h4,h5⟩:=h
   obtain⟨y,ys,hy,hys,hx⟩:=nh (b:=b) (bs:=cE fs) hc
   subst hx
   have hz':=aF.1 hz
   obtain⟨F',D,Z',k1,k2,k3,k4⟩:=ih ds' Fd Z2 ys h5 hf.2 hn hz'.2.1 hys
   obtain⟨G',hsub,k⟩:=gL b d y _ Z1 hy h1 hz'.1
   refine⟨F',D,G'++Z',k1,k2,hsub.append k3,fun S2 hS=>⟨hno,y,_,G',Z',rfl,rfl,k S2 (fun z hz=>hS z (.inl hz)) (fun z hz _=>hS z (.inl (h4 z hz))),kq hy h2,hf.1.trans h3,fun z hz=>hS z (.inl (h4 z (hsub.subset hz))),k4 S2 hS⟩⟩
  ·have h':Z=[]∧fA (E:=E) S w V v V0 np (f::fs) ds Fd:=by cases f <;> first | exact h | exact absurd ⟨_,_,_,rfl⟩ hfz
   obtain⟨hz0,h0⟩:=h'
   subst hz0
   obtain⟨F',D,k1,k2,k3⟩:=jK (f::fs) ds Fd x h0 hf hn hc
   refine⟨F',D,[],k1,k2,List.Sublist.refl _,fun S2 hS=>?_⟩
   have:=k3 S2 hS
   cases f <;> first | exact⟨rfl,this⟩ | exact absurd ⟨_,_,_,rfl⟩ hfz
theorem Ot{np:Nat}:∀ (fs:List Form) (ds:List (DV E.G.T)) (Fd Z:List Nat),q9 (E:=E) S w V v V0 np fs ds Fd Z→Fits (ovr V v fs) V v fs∧∀ s,s<16*np→ovr V v fs s=V s:=by
 intro fs
 induction fs with
 | nil=>intro ds Fd Z h;exact⟨jy [] ds Fd h.2,jJ [] ds Fd h.2⟩
 | cons f fs ih =>
  intro ds Fd Z h
  by_cases hfz:∃ t id b,f = .frz t id b
  ·obtain⟨t,id,b,rfl⟩:=hfz
   obtain⟨hno,d,ds',Z1,Z2,rfl,rfl,h1,h2,h3,h4,h5⟩:=h
   obtain⟨k1,k2⟩:=ih ds' Fd Z2 h5
   exact⟨⟨iY fs id hno,k1⟩,k2⟩
  ·have h':Z=[]∧fA (E:=E) S w V v V0 np (f::fs) ds Fd:=by cases f <;> first | exact h | exact absurd ⟨_,_,_,rfl⟩ hfz
   exact⟨jy (f::fs) ds Fd h'.2,jJ (f::fs) ds Fd h'.2⟩
theorem Ok.addF(h:Ok C σ a w S F V){id t:Nat}{d:DV E.G.T}{Z:List Nat}(hdead:σ.slot id=⟨0,0,false,none,.dead⟩)(hr:RepB S w d.b d.x (V id).cells.toList Z)(hsh:Shaped d.b (V id))(hn:Z.Nodup)(hS:∀ z∈Z,S z)(hap:∀ s,∀ z∈F s,z∉Z)
  (hf:∀ z∈Z,z∈C.F0∨C.w0.heap.size≤z) (hv:a.tmps.getD t undef=V id):Ok C ((σ.setS id ⟨1,0,false,none,.frz d⟩).setP t (.ali id [] 0)) a w S (upd F id Z) V:=by
 have hok:=h.turnF (s0:=id) (x':=⟨1,0,false,none,.frz d⟩) (v':=V id) (F':=Z) (S':=S) (w':=w) (fun b hb=>⟨hb,rfl⟩) (fun _ _ _ _=>rfl) (by rw[hdead];exact Nat.zero_lt_one) (.inr ⟨by rw[hdead],by rw[hdead],rfl⟩) (Nat.zero_le _)
  (by unfold cO;exact⟨rfl,⟨hr,hsh⟩,hS⟩) hn (fun b hb hz=>by cases hz) (fun s hne b hb=>⟨hap s b hb,fun hz=>h.notS s b hb hz⟩) (fun b hb=>h.bndS b (hS b hb)) h.bndS (aK _) (fun _ _ _=>rfl) hf h.fromS rfl rfl rfl (fun _=>rfl) (fun i h1=>by cases h1)
 rw[jm]at hok
 refine hok.repin ?_
 have hsl:(σ.setS id ⟨1,0,false,none,.frz d⟩).slot id=⟨1,0,false,none,.frz d⟩:=by rw[St.setS_slot,ck]
 refine⟨Nat.zero_le _,fun _ _ _=>hv,fun hg=>?_⟩
 rw[hsl]at hg
 cases hg
theorem Y7:∀ (fs:List Form) (x:Bs E.G.T (cE fs)) (Fd Z:List Nat),vb S w V (fun t=>a.tmps.getD t undef) C.V0 fs (cL (cE fs) x) Fd Z→Fd.Nodup→Z.Nodup→(∀ b∈Fd,¬ S b∧b<w.heap.size∧(b∈C.F0∨C.w0.heap.size≤b))→(∀ b∈Z,b∈C.F0∨C.w0.heap.size≤b) →
  (∀ b,S b→b<w.heap.size)→(∀ b,S b→C.S0 b∨b∈C.F0∨C.w0.heap.size≤b)→(∀ b,C.S0 b→S b)→(∀ b,b<C.w0.heap.size→b∉C.F0→w.heap[b]? = C.w0.heap[b]?)→C.w0.heap.size≤w.heap.size →
  w.os=C.w0.os→w.tape=C.w0.tape→w.output=C.w0.output→a.defers=[]→a.tmps.size=C.nt→(∀ s,s<16*C.np→V s=C.V0 s)→∃ Ff,Ok C (cV fs x) a w S Ff V∧∀ s b,b∈Ff s→b∈Fd∨b∈Z:=by
 intro fs
 induction fs with
 | nil =>
  intro x Fd Z h hn hz hF hZ hbS hfS hiS hk hg hos htp hout hd hsz hV0
  obtain⟨Ff,k1,k2⟩:=ET h.2 hn hF hbS hfS hiS hk hg hos htp hout hd hsz hV0
  exact⟨Ff,k1,fun s b hb=>.inl (k2 s b hb)⟩
 | cons f fs ih =>
  intro x Fd Z h hn hz hF hZ hbS hfS hiS hk hg hos htp hout hd hsz hV0
  by_cases hfz:∃ t id b,f = .frz t id b
  ·obtain⟨t,id,b,rfl⟩:=hfz
   obtain⟨hno,y,ds',Z1,Z2,e,rfl,h1,h2,h3,h4,h5⟩:=h
   have e1:cL (cE fs) x.2=ds':=(aP e).2
   have e2:(⟨b,x.1⟩:DV E.G.T)=⟨b,y⟩:=(aP e).1
   rw[← e1]at h5
   have hz':=aF.1 hz
   obtain⟨Ff,k1,k2⟩:=ih x.2 Fd Z2 h5 hn hz'.2.1 hF (fun b hb=>hZ b (ay _ hb)) hbS hfS hiS hk hg hos htp hout hd hsz hV0
   have hok:=k1.addF (id:=id) (t:=t) (d:=⟨b,x.1⟩) (Z:=Z1) (j7 fs x.2 id hno) (by rw[e2,h3];exact h1) (by rw[h3];exact h2) hz'.1 h4 (fun s z hz1 hz2=>by
    rcases k2 s z hz1 with g | g
    ·exact(hF z g).1 (h4 z hz2)
    ·exact hz'.2.2 z hz2 z g rfl) (fun z hz=>hZ z (ax _ hz)) h3.symm
   refine⟨_,hok,fun s z hz1=>?_⟩
   by_cases es:s=id
   ·subst es;rw[ck]at hz1;exact .inr (ax _ hz1)
   ·rw[cj _ _ es]at hz1;exact(k2 s z hz1).imp (fun q=>q) (ay _)
  ·have h':Z=[]∧eD S w V (fun t=>a.tmps.getD t undef) C.V0 (f::fs) (cL (cE (f::fs)) x) Fd:=by cases f <;> first | exact h | exact absurd ⟨_,_,_,rfl⟩ hfz
   obtain⟨hz0,h0⟩:=h'
   subst hz0
   obtain⟨Ff,k1,k2⟩:=ET h0 hn hF hbS hfS hiS hk hg hos htp hout hd hsz hV0
   exact⟨Ff,k1,fun s b hb=>.inl (k2 s b hb)⟩
theorem Qo(hnp:fn.np=C.np)(hM:df C σ a w){fs:List Form}{ds:List (DV E.G.T)}(hm:(mq (E:=E) fn fs).run Fa σ=some (ds,σ1)){x:Bs E.G.T (cE fs)}(hc:fv E (cE fs) ds=some x):df C (cV fs x) a w:=by
 obtain⟨S,F,V,h⟩:=hM
 obtain⟨F1,Fd,Z,k1,k2,k3,k4,k5⟩:=UD hnp (v:=fun t=>a.tmps.getD t undef) (fun _=>rfl) h fs σ1 ds hm
 obtain⟨q1,q2⟩:=Ot fs ds Fd Z k3
 obtain⟨F',D,Z',m1,m2,m4,m3⟩:=UB (V':=ovr V (fun t=>a.tmps.getD t undef) fs) fs ds Fd Z x k3 q1 k2.nd k4 hc
 have hH:=m3 (fun z=>S z∨z∈D) fun z hz=>hz
 obtain⟨Ff,n1,_⟩:=Y7 fs x F' Z' hH (k2.nd.sublist m1) (k4.sublist m4) (fun b hb=>⟨fun hS=>hS.elim (k2.notS b (m1.subset hb)) fun hD=>(m2 b hD).2 hb,k2.bnd b (m1.subset hb),k2.fromF b (m1.subset hb)⟩)
  (fun b hb=>by obtain⟨s,_,hs⟩:=k5 b (m4.subset hb);exact h.fromF s b hs)
  (fun b hb=>hb.elim (k1.bndS b) fun hD=>k2.bnd b (m2 b hD).1) (fun b hb=>hb.elim (k1.fromS b) fun hD=>.inr (k2.fromF b (m2 b hD).1)) (fun b hb=>.inl (k1.inS b hb)) k1.keep k1.grow k1.os k1.tape k1.output k1.defers k1.size
  (fun s hs=>by rw[q2 s hs];exact k1.V0 s hs)
 exact⟨_,Ff,_,n1⟩
end
end
section
section
variable {E:Env} {Fa:cr E.Z} {C:Ctx} {σ σ1:St E.G} {a:Act} {w:World} {S:Nat→Prop} {F:Nat→List Nat} {V V0:Nat→Value} {L:List Nat} {fn:Fn}
def CoL:List BT→List (DV E.G.T)→List (DV E.G.T)→Prop
 | [],ds,ys=>ds=[]∧ys=[]
 | b::bs,ds,ys=>∃ (d:DV E.G.T) (ds' ys':List (DV E.G.T)) (y:B E.G.T b),ds=d::ds'∧ys=⟨b,y⟩::ys'∧coB E.G b d=some y∧CoL bs ds' ys'
theorem Gx:∀ (bs:List BT) (ds:List (DV E.G.T)) (x:Bs E.G.T bs),fv E bs ds=some x→CoL (E:=E) bs ds (cL bs x)
 | [],[],x,h=>⟨rfl,rfl⟩
 | b::bs,d::ds,x,h=>by
  obtain⟨y,ys,hy,hys,hx⟩:=nh h
  subst hx
  exact⟨d,ds,_,y,rfl,rfl,hy,Gx bs ds ys hys⟩
 | [],_::_,x,h=>b7 h
 | _::_,[],x,h=>b7 h
theorem CoL.split:∀ {bs bs':List BT} {ds ds' ys:List (DV E.G.T)},CoL (E:=E) (bs++bs') (ds++ds') ys→ds.length=bs.length→CoL (E:=E) bs ds (ys.take bs.length)∧CoL (E:=E) bs' ds' (ys.drop bs.length)
 | [],bs',[],ds',ys,h,_=>⟨⟨rfl,by simp⟩,by simpa using h⟩
 | b::bs,bs',d::ds,ds',ys,h,hl=>by
  obtain⟨d0,ds0,ys',y,e1,e2,e3,h'⟩:=h
  simp only[List.cons_append,List.cons.injEq]at e1
  obtain⟨rfl,rfl⟩:=e1
  subst e2
  obtain⟨k1,k2⟩:=CoL.split h' (by simpa using hl)
  exact⟨⟨d,ds,_,y,rfl,rfl,e3,k1⟩,k2⟩
 | [],bs',_::_,ds',ys,h,hl=>by simp at hl
 | _::_,bs',[],ds',ys,h,hl=>by simp at hl
theorem YS{s:Nat}{p:cT}{g:Nat}{d:DV E.G.T}(hm:(iE (E:=E) (.ali s p g)).run Fa σ=some (d,σ1)):d.b.whole=true:=by
 obtain⟨σ2,hm,_⟩:=qG hm
 change M.run Fa (match (σ.slot s).cont with
   | .data d=>need (dK (σ.slot s) p g) (match get E.G p d with
    | some c=>bif c.b.cp E.G then .ret c else need c.b.whole <|
     bif (σ.slot s).box then need (cZ p) (match put E.G ⟨.hole (c.b.sz E.G),()⟩ p d with
      | some d'=>.setS s { σ.slot s with gen:=(σ.slot s).gen+1,orig:=none,cont:=.data d' } (.ret c)
      | none=>.fail)
     else .setS s { σ.slot s with gen:=(σ.slot s).gen+1,born:=(σ.slot s).gen+1,cont:=.dead } (.ret c)
    | none=>.fail)
   | .frz d=>fS (σ.slot s) p g d
   | _=>.fail) σ=some (d,σ2)at hm
 cases hc:(σ.slot s).cont with
 | dead=>rw[hc]at hm;exact aA (F:=Fa) hm
 | word _=>rw[hc]at hm;exact aA (F:=Fa) hm
 | frz _=>rw[hc]at hm;exact NE hm
 | data d0 =>
  rw[hc]at hm
  obtain⟨_,hm2⟩:=aC hm
  cases hg:get E.G p d0 with
  | none=>rw[hg]at hm2;exact aA (F:=Fa) hm2
  | some c =>
   rw[hg]at hm2
   simp only at hm2
   cases hcp:c.b.cp E.G with
   | true=>rw[hcp]at hm2;rw[(aB (F:=Fa) hm2).1];exact lJ hcp
   | false =>
    rw[hcp]at hm2
    obtain⟨hw,hm3⟩:=aC hm2
    cases hbx:(σ.slot s).box with
    | true =>
     rw[hbx]at hm3
     obtain⟨_,hm4⟩:=aC hm3
     split at hm4
     ·cases hm4;exact hw
     ·exact aA (F:=Fa) hm4
    | false=>rw[hbx]at hm3;cases hm3;exact hw
def nR(tmps:Array Value):ResultVar→Sem Value
 | .tmp t=>pure (tmps.getD t undef)
 | .cell p t=>do loadVar t (← asAddr (tmps.getD p undef))
def u6:List BT→List (DV E.G.T)→Prop
 | bs,[]=>True
 | bs,d::ds=>(jB bs=dT d.b∧(lP bs=true→iu d.b=true))∧u6 bs.tail ds
theorem Jr{b:BT}{x:B E.G.T (.pr (.hole 0) b)}{v:Value}{Fr:List Nat}(h:∃ blk c E0 F',v = .pointer (some ⟨blk,0,none⟩)∧w.heap[blk]? = some (.cells c E0 (0,0))∧Fr=blk::F'∧RepB S w b x.2 c.toList F'):RetOK S w ⟨.pr (.hole 0) b,x⟩ v Fr:=by
 unfold RetOK
 exact(bw (show dT (.pr (.hole 0) b)=true from rfl)).mpr h
theorem M0(h:Ok C σ a w S F V)(hL:Loose C w S F L){p:bX E}{v:Value}(hp:b9 S w σ.slot V p v){d:DV E.G.T}(hm:(oW (E:=E) p).run Fa σ=some (d,σ1)) :
  ∃ F1 Fd,Ok C σ1 a w S F1 V∧Loose C w S F1 (Fd++L)∧dT d.b=true∧RetOK S w d v Fd:=by
 unfold oW at hm
 split at hm
 ·rename_i s g
  have hm2:M.run Fa (match (σ.slot s).cont with
   | .data d=>need (Nat.ble (σ.slot s).born g&&(σ.slot s).box) (.setS s { σ.slot s with gen:=(σ.slot s).gen+1,cont:=.dead } (.ret ⟨.pr (.hole 0) d.b,((),d.x)⟩))
   | _=>.fail) σ=some (d,σ1):=hm
  cases hc:(σ.slot s).cont with
  | dead=>rw[hc]at hm2;exact aA (F:=Fa) hm2
  | word _=>rw[hc]at hm2;exact aA (F:=Fa) hm2
  | frz _=>rw[hc]at hm2;exact aA (F:=Fa) hm2
  | data d0 =>
   rw[hc]at hm2
   obtain⟨hb,hm3⟩:=aC hm2
   simp only[aD]at hb
   rw[M.run_setS]at hm3
   obtain⟨rfl,rfl⟩:=aB (F:=Fa) hm3
   obtain⟨F1,g1,g2⟩:=xc h hL hc
   have hd:=(j5 hc).1 (h.slots s)
   rw[hb.2]at hd
   unfold dw at hd
   rw[bw rfl]at hd
   obtain⟨blk,c,E0,F',q1,q2,q3,q4⟩:=hd
   obtain⟨_,b1,hV,hv⟩:=hp.2.1 rfl (aG hb.1)
   rw[hV]at q1
   cases q1
   exact⟨F1,F s,g1,g2,rfl,Jr ⟨blk,c,E0,F',hv,q2,q3,q4⟩⟩
 ·exact aA (F:=Fa) hm
theorem LJ{b:BT}(h:b.whole=true):iu b=false:=by cases b <;> first | rfl | cases h
theorem xZ(hT:∀ t ft,E.ty t=some ft→dh E.G C.P E.ty t ft=true):∀ (rs:List ResultVar) (bs:List BT) (σ σ1:St E.G) (F:Nat→List Nat) (L:List Nat) (ds:List (DV E.G.T)),Ok C σ a w S F V→Loose C w S F L→(nS (E:=E) rs bs).run Fa σ=some (ds,σ1) →
  ∃ F1 Fr vs,Ok C σ1 a w S F1 V∧Loose C w S F1 (Fr++L)∧RetsOK S w ds vs Fr∧(rs.mapM (nR a.tmps)).run C.P w = .ok vs w∧ds.length=rs.length∧u6 (E:=E) bs ds
 | [],bs,σ,σ1,F,L,ds,h,hL,hm=>by
  obtain⟨rfl,rfl⟩:=aB (F:=Fa) hm
  exact⟨F,[],[],h,hL,⟨rfl,rfl⟩,by simp,rfl,trivial⟩
 | .tmp t::rs,bs,σ,σ1,F,L,ds,h,hL,hm=>by
  have hm2:M.run Fa ((bif lP bs then sC (E:=E) (σ.pin t) else(bif jB bs then oW (E:=E) (σ.pin t) else(eK (E:=E) (bs.head?.bind jI) (σ.pin t)).bind fun d=>need (!dT d.b) (.ret d))).bind fun d=>(nS rs bs.tail).bind fun ds=>.ret (d::ds)) σ=some (ds,σ1):=hm
  obtain⟨d,σ2,h1,h2⟩:=az hm2
  have hone:∃ F1 Fd,Ok C σ2 a w S F1 V∧Loose C w S F1 (Fd++L)∧(jB bs=dT d.b∧(lP bs=true→iu d.b=true))∧RetOK S w d (a.tmps.getD t undef) Fd:=by
   cases hh:lP bs with
   | true =>
    rw[hh]at h1
    have h1':M.run Fa (sC (E:=E) (σ.pin t)) σ=some (d,σ2):=h1
    have hbx:jB bs=false:=by
     cases bs with
     | nil=>rfl
     | cons b bs=>cases b <;> first | rfl | (exact absurd hh (by decide)) | cases hh
    unfold sC at h1'
    split at h1'
    ·rename_i hpt
     obtain⟨rfl,rfl⟩:=aB (F:=Fa) h1'
     have hp:=h.pins t
     rw[hpt]at hp
     have hp':a.tmps.getD t undef = .nilIface:=hp
     refine⟨F,[],h,hL,⟨hbx,fun _=>rfl⟩,?_⟩
     unfold RetOK
     rw[bz (show ¬ dT (.hole 1)=true by decide)]
     exact⟨⟨by rw[hp'];rfl,rfl⟩,trivial,fun _=>hp'⟩
    ·exact aA (F:=Fa) h1'
   | false =>
   rw[hh]at h1
   replace h1:M.run Fa (bif jB bs then oW (E:=E) (σ.pin t) else(eK (E:=E) (bs.head?.bind jI) (σ.pin t)).bind fun d=>need (!dT d.b) (.ret d)) σ=some (d,σ2):=h1
   cases hb:jB bs with
   | true =>
    rw[hb]at h1
    obtain⟨F1,Fd,k1,k2,k3,k4⟩:=M0 h hL (h.pins t) h1
    exact⟨F1,Fd,k1,k2,⟨k3.symm,fun h=>by cases h⟩,k4⟩
   | false =>
    rw[hb]at h1
    obtain⟨d',σ',h3,h4⟩:=az (show M.run Fa ((eK (E:=E) (bs.head?.bind jI) (σ.pin t)).bind fun d=>need (!dT d.b) (.ret d)) σ=some (d,σ2)from h1)
    obtain⟨hnb,h5⟩:=aC h4
    obtain⟨rfl,rfl⟩:=aB (F:=Fa) h5
    obtain⟨F1,g1,g2,g3,Fd,g4,g5⟩:=jk h hL (h.pins t) h3
    have hnb':dT d.b=false:=by simpa using hnb
    refine⟨F1,Fd,g1,g5,⟨hnb'.symm,fun h=>by cases h⟩,?_⟩
    unfold RetOK
    rw[bz (by rw[hnb'];decide)]
    exact⟨g4,g3,fun hh=>by rw[LJ g2]at hh;cases hh⟩
  obtain⟨F1,Fd,g1,g5,gb,g4⟩:=hone
  obtain⟨ds',σ3,h3,h4⟩:=az h2
  obtain⟨rfl,rfl⟩:=aB (F:=Fa) h4
  obtain⟨F2,Fr,vs,k1,k2,k3,k4,k5,k6⟩:=xZ hT rs bs.tail _ _ F1 (Fd++L) ds' g1 g5 h3
  refine⟨F2,Fd++Fr,_::vs,k1,kK k2,⟨_,vs,Fd,Fr,rfl,rfl,g4,k3⟩,?_,by simp[k5],gb,k6⟩
  rw[List.mapM_cons]
  simp only[nR,Sem.run_bind,Sem.run_pure,aS,k4]
 | .cell p t::rs,bs,σ,σ1,F,L,ds,h,hL,hm=>by
  have hm2:M.run Fa (match σ.pin p,E.ty t with
   | .ptr s [] 0 g,some ft=>.getS s fun x=>need (Nat.ble x.born g&&x.box) ((rp (E:=E) ft s x).bind fun d=>need (shp E.G deep ft d.b&&(!jB bs && !dT d.b) && !lP bs) ((nS rs bs.tail).bind fun ds=>.ret (d::ds)))
   | _,_=>.fail) σ=some (ds,σ1):=hm
  have hp:=h.pins p
  split at hm2
  ·rename_i s g ft hpp ht
   rw[M.run_getS]at hm2
   obtain⟨hc,hm3⟩:=aC hm2
   simp only[aD]at hc
   obtain⟨hc1,hc2⟩:=hc
   rw[hpp]at hp
   obtain⟨_,blk,hV,hpv⟩:=hp.2.1 rfl (aG hc1)
   obtain⟨d,σ2,h1,h2⟩:=az hm3
   obtain⟨hsh3,h2'⟩:=aC h2
   simp only[aD,Bool.not_eq_true']at hsh3
   obtain⟨⟨hsh,hnb1,hnb2⟩,hnh⟩:=hsh3
   have hcell:∃ c E0 F1 Fd,w.heap[blk]? = some (.cells c E0 (0,0))∧Ok C σ2 a w S F1 V∧d.b.whole=true∧RepB S w d.b d.x c.toList Fd∧Loose C w S F1 (Fd++L):=by
    by_cases hw:∃ q,(σ.slot s).cont = .word q
    ·obtain⟨q,hq⟩:=hw
     unfold rp at h1
     rw[hq]at h1
     have hs:=h.slots s
     unfold cO at hs
     rw[hq]at hs
     obtain⟨_,b',c,E0,cv,e1,e2,e3,e4,e5⟩:=hs
     rw[hV]at e1
     cases e1
     obtain⟨F1,g1,g2,_,Fd,g4,g5⟩:=jk h hL e5 h1
     exact⟨c,E0,F1,Fd,e2,g1,g2,by rw[e4];exact g4,g5⟩
    ·have h1':(iE (E:=E) (.ali s [] (σ.slot s).gen)).run Fa σ=some (d,σ2):=by
      unfold rp at h1
      split at h1
      ·rename_i q hq;exact absurd ⟨q,hq⟩ hw
      ·exact h1
     obtain⟨d0,hd0⟩:=Ly (t:=none) hc2 h1'
     have hdd:d=d0:=Lw h1' hd0 rfl
     subst hdd
     have hwh:=YS h1'
     have hs:=(j5 hd0).1 (h.slots s)
     unfold dw at hs
     rw[bw hc2]at hs
     obtain⟨blk',c,E0,Fs,e1,e2,e3,e4⟩:=hs
     rw[hV]at e1
     cases e1
     have hcl:c.toList.length=ft.sz E.G.sz:=(RepB.len e4).trans ((ji deep).1 _ _ hsh)
     obtain⟨v1,v2,v3⟩:=qM (nm:=ft.isNm) (RepB.one hwh e4) (fun hn=>by rw[hcl];cases ft <;> first | rfl | cases hn)
     have hshp:=ur hsh hwh v2 v3
     have hpin:b9 S w σ.slot V (.ali s [] (σ.slot s).gen) (eL ft.isNm c.toList):=by
      refine⟨aK _,fun _ hb=>(by rw[hc2]at hb;cases hb),fun _=>⟨d,c.toList,some (blk,0),d,c.toList,some (blk,0),hd0,?_,rfl,v1,hshp⟩⟩
      unfold Root
      rw[bw hc2]
      exact⟨blk,c,E0,hV,e2,rfl,rfl⟩
     obtain⟨F1,g1,g2,g3,Fd,g4,g5⟩:=ux h hL hpin h1'
     exact⟨c,E0,F1,Fd,e2,g1,g2,by rw[← v1];exact g4,g5⟩
   obtain⟨c,E0,F1,Fd,e2,g1,g2,g4,g5⟩:=hcell
   obtain⟨inf,z,hty⟩:=TyOK.of (hT t ft ht)
   have hcl:c.toList.length=ft.sz E.G.sz:=(RepB.len g4).trans ((ji deep).1 _ _ hsh)
   have hrun:=sR hty w (off:=0) e2 (cs:=c.toList) (by rw[aQ,← hcl,List.take_length]) hcl
   obtain⟨v1,v2,v3⟩:=qM (nm:=ft.isNm) (RepB.one g2 g4) (fun hn=>by rw[hcl];cases ft <;> first | rfl | cases hn)
   have g3:=ur hsh g2 v2 v3
   obtain⟨ds',σ3,h3,h4⟩:=az h2'
   obtain⟨rfl,rfl⟩:=aB (F:=Fa) h4
   obtain⟨F2,Fr,vs,k1,k2,k3,k4,k5,k6⟩:=xZ hT rs bs.tail _ _ F1 (Fd++L) ds' g1 g5 h3
   have hro:RetOK S w d (eL ft.isNm c.toList) Fd:=by
    unfold RetOK
    rw[bz (by rw[hnb2];decide)]
    exact⟨by rw[v1];exact g4,g3,fun hh=>by rw[LJ g2]at hh;cases hh⟩
   refine⟨F2,Fd++Fr,_::vs,k1,kK k2,⟨_,vs,Fd,Fr,rfl,rfl,hro,k3⟩,?_,by simp[k5],⟨hnb1.trans hnb2.symm,fun hh=>by rw[hnh]at hh;cases hh⟩,k6⟩
   rw[List.mapM_cons]
   simp only[nR,hpv,asAddr,Sem.run_bind,Sem.run_pure,aS,hrun,k4]
  ·exact aA (F:=Fa) hm2
theorem Vf{P:Program}{f:Func}{tmps:Array Value}{vs:List Value}(h:(f.results.toList.mapM (nR tmps)).run P w = .ok vs w):(results f tmps).run P w = .ok (qh vs) w:=by
 have hm:(f.results.mapM (nR tmps)).run P w = .ok vs.toArray w:=by
  rw[Array.mapM_eq_mapM_toList]
  simp[h]
 have:(results f tmps).run P w=(do let vs ← f.results.mapM (nR tmps);pure (if h:vs.size=1 then vs[0]else .tuple vs):Sem Value).run P w:=by
  congr 1
 rw[this,Sem.run_bind,hm]
 simp only[aS,Sem.run_pure]
 match vs with
 | []=>rfl
 | [v]=>rfl
 | _::_::_=>simp[qh]
theorem Gg{b:BT}(h:dT b=true):∃ b',b = .pr (.hole 0) b':=by
 unfold dT at h
 split at h
 ·exact⟨_,rfl⟩
 ·cases h
theorem Vg{b:BT}{d:DV E.G.T}{y:B E.G.T b}{v:Value}{Fr:List Nat}(hy:coB E.G b d=some y)(hb:dT b=dT d.b)(hh:iu b=true→iu d.b=true)(h:RetOK S w d v Fr)(hn:Fr.Nodup) :
  ∃ F':List Nat,F'.Sublist Fr∧∀ S2:Nat→Prop,(∀ z,S z→S2 z)→(∀ z∈Fr,z∉F'→S2 z)→RetOK S2 w ⟨b,y⟩ v F':=by
 unfold RetOK at h
 cases hbd:dT d.b with
 | false =>
  rw[bz (by rw[hbd];decide)]at h
  obtain⟨G',hsub,k⟩:=gL b d y _ Fr hy h.1 hn
  refine⟨G',hsub,fun S2 h1 h2=>?_⟩
  unfold RetOK
  rw[bz (by rw[show(DV.mk b y).b=b from rfl,hb,hbd];decide)]
  exact⟨k S2 h1 h2,kq hy h.2.1,fun h5=>h.2.2 (hh h5)⟩
 | true =>
  rw[bw hbd]at h
  obtain⟨db,dx⟩:=d
  obtain⟨blk,c,E0,F',r1,r2,r3,r4⟩:=h
  rw[hbd]at hb
  have hbd':dT db=true:=hbd
  obtain⟨b',rfl⟩:=Gg hb
  obtain⟨db',rfl⟩:=Gg hbd'
  have hy2:∃ y2,coB E.G b' ⟨db',dx.2⟩=some y2∧y=((),y2):=by
   have h1:ju (coB E.G (.hole 0)) (coB E.G b') ⟨.pr (.hole 0) db',dx⟩=some y:=hy
   simp only[ju]at h1
   cases h2:coB E.G b' ⟨db',dx.2⟩ with
   | none=>rw[h2]at h1;cases h3:coB E.G (.hole 0) ⟨.hole 0,dx.1⟩ <;> rw[h3]at h1 <;> cases h1
   | some y2 =>
    rw[h2]at h1
    cases h3:coB E.G (.hole 0) ⟨.hole 0,dx.1⟩ with
    | none=>rw[h3]at h1;cases h1
    | some u=>rw[h3]at h1;cases h1;exact⟨y2,rfl,rfl⟩
  obtain⟨y2,hy3,rfl⟩:=hy2
  rw[r3]at hn
  obtain⟨G',hsub,k⟩:=gL b' ⟨db',dx.2⟩ y2 _ F' hy3 r4 (List.nodup_cons.1 hn).2
  refine⟨blk::G',by rw[r3];exact hsub.cons_cons blk,fun S2 h1 h2=>?_⟩
  exact Jr ⟨blk,c,E0,G',r1,r2,rfl,k S2 h1 fun z hz hz'=>h2 z (by rw[r3];exact aI _ hz) fun hm=>by
   rcases aO.1 hm with e | hm
   ·subst e;exact(List.nodup_cons.1 hn).1 hz
   ·exact hz' hm⟩
theorem Jt:∀ (bs:List BT) (ds ys:List (DV E.G.T)) (vs:List Value) (Fr:List Nat),CoL (E:=E) bs ds ys→u6 (E:=E) bs ds→RetsOK S w ds vs Fr→Fr.Nodup→∃ F' D:List Nat,F'.Sublist Fr∧(∀ z∈D,z∈Fr∧z∉F')∧∀ S2:Nat→Prop,(∀ z,S z∨z∈D→S2 z)→RetsOK S2 w ys vs F'
 | [],ds,ys,vs,Fr,hc,_,hr,hn=>by
  obtain⟨rfl,rfl⟩:=hc
  obtain⟨rfl,rfl⟩:=hr
  exact⟨[],[],List.Sublist.refl _,fun _ h=>(by cases h),fun _ _=>⟨rfl,rfl⟩⟩
 | b::bs,ds,ys,vs,Fr,⟨d,ds',ys',y,e1,e2,hy,hc⟩,hbx,hr,hn=>by
  subst e1;subst e2
  obtain⟨v,vs',F1,F2,rfl,rfl,h1,h3⟩:=hr
  have hn':=aF.1 hn
  obtain⟨G',hsub,k⟩:=Vg hy hbx.1.1 hbx.1.2 h1 hn'.1
  obtain⟨F',D,k1,k2,k3⟩:=Jt bs ds' ys' vs' F2 hc hbx.2 h3 hn'.2.1
  refine⟨G'++F',gM F1 G'++D,hsub.append k1,fun z hz=>?_,fun S2 hS=>⟨v,vs',G',F',rfl,rfl,k S2 (fun z hz=>hS z (.inl hz)) (fun z hz hz'=>hS z (.inr (ax _ (mem_dropped.2 ⟨hz,hz'⟩)))),k3 S2 fun z hz=>hS z (hz.imp (fun q=>q) (ay _))⟩⟩
  rcases aE.1 hz with hz | hz
  ·obtain⟨m1,m2⟩:=mem_dropped.1 hz
   refine⟨ax _ m1,fun hz'=>?_⟩
   rcases aE.1 hz' with hz' | hz'
   ·exact m2 hz'
   ·exact hn'.2.2 z m1 z (k1.subset hz') rfl
  ·obtain⟨m1,m2⟩:=k2 z hz
   refine⟨ay _ m1,fun hz'=>?_⟩
   rcases aE.1 hz' with hz' | hz'
   ·exact hn'.2.2 z (hsub.subset hz') z m1 rfl
   ·exact m2 hz'
def ve(S:Nat→Prop)(w:World)(V V0:Nat→Value)(np:Nat):List (Nat×IoK)→List (DV E.G.T)→List Nat→Prop
 | [],ds,F=>ds=[]∧F=[]
 | (s,k)::l,ds,F=>∃ (d:DV E.G.T) (ds':List (DV E.G.T)) (F1 F2:List Nat),ds=d::ds'∧F=F1++F2∧(match k with
   | .box=>s<16*np∧dw S w true d (V s) F1
   | .reg=>s<16*np∧dw S w false d (V s) F1
   | .orig i=>dw S w true d (V s) F1∧∀ (x:Slot E.G) cs ad,x.box=true→Root w x (V s) cs ad→cs=(V0 (16*i)).cells.toList)∧ve S w V V0 np l ds' F2
theorem Ih(hnp:fn.np=C.np):∀ (l:List (Nat×IoK)) (σ σ1:St E.G) (F:Nat→List Nat) (L:List Nat) (ds:List (DV E.G.T)),Ok C σ a w S F V→Loose C w S F L→(si (E:=E) fn l).run Fa σ=some (ds,σ1) →
  ∃ F1 Fb,Ok C σ1 a w S F1 V∧Loose C w S F1 (Fb++L)∧ve (E:=E) S w V C.V0 C.np l ds Fb
 | [],σ,σ1,F,L,ds,h,hL,hm=>by
  obtain⟨rfl,rfl⟩:=aB (F:=Fa) hm
  exact⟨F,[],h,hL,rfl,rfl⟩
 | (s,k)::l,σ,σ1,F,L,ds,h,hL,hm=>by
  have hm2:M.run Fa (match (σ.slot s).cont with
   | .data d=>need (pO fn.np s (σ.slot s) k) (.setS s { σ.slot s with gen:=(σ.slot s).gen+1,cont:=.dead } ((si (E:=E) fn l).bind fun ds=>.ret (d::ds)))
   | _=>.fail) σ=some (ds,σ1):=hm
  cases hc:(σ.slot s).cont with
  | dead=>rw[hc]at hm2;exact aA (F:=Fa) hm2
  | word _=>rw[hc]at hm2;exact aA (F:=Fa) hm2
  | frz _=>rw[hc]at hm2;exact aA (F:=Fa) hm2
  | data d =>
   rw[hc]at hm2
   obtain⟨hb,hm3⟩:=aC hm2
   rw[M.run_setS]at hm3
   obtain⟨ds',σ3,h3,h4⟩:=az hm3
   obtain⟨rfl,rfl⟩:=aB (F:=Fa) h4
   obtain⟨F1,g1,g2⟩:=xc h hL hc
   obtain⟨F2,Fb,k1,k2,k3⟩:=Ih hnp l _ _ F1 (F s++L) ds' g1 g2 h3
   have hd:=(j5 hc).1 (h.slots s)
   refine⟨F2,F s++Fb,k1,kK k2,d,ds',F s,Fb,rfl,rfl,?_,k3⟩
   cases k with
   | box =>
    simp only[pO,aD]at hb
    rw[hb.1]at hd
    exact⟨by rw[← hnp];exact aG hb.2,hd⟩
   | reg =>
    simp only[pO,aD,Bool.not_eq_true']at hb
    rw[hb.1]at hd
    exact⟨by rw[← hnp];exact aG hb.2,hd⟩
   | orig i =>
    simp only[pO,aD]at hb
    have hd':=hd
    rw[hb.1]at hd'
    refine⟨hd',fun x cs ad hx hr=>h.orig s i (F5 hb.2) hb.1 (by rw[hc];simp) cs ad ?_⟩
    unfold Root at hr ⊢
    rw[hb.1];rw[hx]at hr;exact hr
def jp(V0:Nat→Value):List (Nat×IoK)→List (PM×BT×Value)→Prop
 | ios,[]=>ios=[]
 | ios,(.val,_,_)::its=>jp V0 ios its
 | ios,(.own,_,_)::its=>jp V0 ios its
 | ios,(.io,b,v)::its=>∃ s k rest,ios=(s,k)::rest∧Shaped b v∧((k = .reg∧v=V0 s)∨∃ i,k = .orig i∧v=V0 (16*i))∧jp V0 rest its
 | ios,(.ptr _,b,v)::its=>∃ s rest,ios=(s,.box)::rest∧v=V0 s∧jp V0 rest its
def gI:List (PM×BT×Value)→List BT
 | []=>[]
 | it::its=>if it.1.back=true then it.1.out it.2.1::gI its else gI its
theorem pP{np:Nat}(hV:∀ s,s<16*np→V s=V0 s):∀ (its:List (PM×BT×Value)) (ios:List (Nat×IoK)) (ds ys:List (DV E.G.T)) (Fb:List Nat),CoL (E:=E) (gI its) ds ys→ve (E:=E) S w V V0 np ios ds Fb→jp V0 ios its→Fb.Nodup →
  ∃ F' D:List Nat,F'.Sublist Fb∧(∀ z∈D,z∈Fb∧z∉F')∧∀ S2:Nat→Prop,(∀ z,S z∨z∈D→S2 z)→ItemsOut S2 w its ys F'
 | [],ios,ds,ys,Fb,hc,hr,hf,hn=>by
  have:ios=[]:=hf
  subst this
  obtain⟨rfl,rfl⟩:=hr
  obtain⟨_,rfl⟩:=hc
  exact⟨[],[],List.Sublist.refl _,fun _ h=>(by cases h),fun _ _=>⟨rfl,rfl⟩⟩
 | (.val,b,v)::its,ios,ds,ys,Fb,hc,hr,hf,hn=>pP hV its ios ds ys Fb hc hr hf hn
 | (.own,b,v)::its,ios,ds,ys,Fb,hc,hr,hf,hn=>pP hV its ios ds ys Fb hc hr hf hn
 | (.io,b,v)::its,ios,ds,ys,Fb,hc,hr,hf,hn=>by
  obtain⟨s,k,rest,rfl,hsh,hk,hf'⟩:=hf
  obtain⟨d,ds',F1,F2,rfl,rfl,hd,hr'⟩:=hr
  obtain⟨d0,ds0,ys',y,e1,rfl,hy,hc'⟩:=(show CoL (E:=E) (b::gI its) (d::ds') ys from hc)
  cases e1
  have hn':=aF.1 hn
  obtain⟨F',D,k1,k2,k3⟩:=pP hV its rest ds' ys' F2 hc' hr' hf' hn'.2.1
  obtain⟨P1,hp1,hp2⟩:∃ P1:List Nat,P1.Sublist F1∧RepB S w d.b d.x v.cells.toList P1:=by
   rcases hk with ⟨rfl,hv⟩ | ⟨i,rfl,hv⟩
   ·obtain⟨hs,hd⟩:=hd
    unfold dw at hd
    rw[bz (by decide),hV s hs,← hv]at hd
    exact⟨F1,List.Sublist.refl _,hd.1⟩
   ·obtain⟨hd,ho⟩:=hd
    unfold dw at hd
    rw[bw rfl]at hd
    obtain⟨blk,c,E0,Fs,q1,q2,q3,q4⟩:=hd
    have:=ho ⟨0,0,true,none,.dead⟩ c.toList (some (blk,0)) rfl (by unfold Root;rw[bw rfl];exact⟨blk,c,E0,q1,q2,rfl,rfl⟩)
    rw[← hv]at this
    rw[this]at q4
    exact⟨Fs,by rw[q3];exact List.sublist_cons_self ..,q4⟩
  obtain⟨G',hsub,kk⟩:=gL b d y _ P1 hy hp2 (hn'.1.sublist hp1)
  refine⟨G'++F',gM P1 G'++D,(hsub.trans hp1).append k1,fun z hz=>?_,fun S2 hS=>?_⟩
  ·rcases aE.1 hz with hz | hz
   ·obtain⟨m1,m2⟩:=mem_dropped.1 hz
    refine⟨ax _ (hp1.subset m1),fun hz'=>?_⟩
    rcases aE.1 hz' with hz' | hz'
    ·exact m2 hz'
    ·exact hn'.2.2 z (hp1.subset m1) z (k1.subset hz') rfl
   ·obtain⟨m1,m2⟩:=k2 z hz
    refine⟨ay _ m1,fun hz'=>?_⟩
    rcases aE.1 hz' with hz' | hz'
    ·exact hn'.2.2 z (hp1.subset (hsub.subset hz')) z m1 rfl
    ·exact m2 hz'
  ·show ItemsOut S2 w ((.io,b,v)::its) _ _
   unfold ItemsOut
   rw[bw (show PM.io.back=true from rfl)]
   exact⟨_,ys',G',F',rfl,rfl,⟨y,rfl,kk S2 (fun z hz=>hS z (.inl hz)) (fun z hz hz'=>hS z (.inr (ax _ (mem_dropped.2 ⟨hz,hz'⟩)))),hsh⟩,k3 S2 fun z hz=>hS z (hz.imp (fun q=>q) (ay _))⟩
 | (.ptr o,b,v)::its,ios,ds,ys,Fb,hc,hr,hf,hn=>by
  obtain⟨s,rest,rfl,hv,hf'⟩:=hf
  obtain⟨d,ds',F1,F2,rfl,rfl,⟨hs,hd⟩,hr'⟩:=hr
  obtain⟨d0,ds0,ys',y,e1,rfl,hy,hc'⟩:=(show CoL (E:=E) (o::gI its) (d::ds') ys from hc)
  cases e1
  have hn':=aF.1 hn
  obtain⟨F',D,k1,k2,k3⟩:=pP hV its rest ds' ys' F2 hc' hr' hf' hn'.2.1
  rw[hV s hs,← hv]at hd
  obtain⟨G',D1,hsub,m,k⟩:=GK hd hn'.1 hy
  refine⟨G'++F',D1++D,hsub.append k1,fun z hz=>?_,fun S2 hS=>?_⟩
  ·rcases aE.1 hz with hz | hz
   ·obtain⟨m1,m2⟩:=m z hz
    refine⟨ax _ m1,fun hz'=>?_⟩
    rcases aE.1 hz' with hz' | hz'
    ·exact m2 hz'
    ·exact hn'.2.2 z m1 z (k1.subset hz') rfl
   ·obtain⟨m1,m2⟩:=k2 z hz
    refine⟨ay _ m1,fun hz'=>?_⟩
    rcases aE.1 hz' with hz' | hz'
    ·exact hn'.2.2 z (hsub.subset hz') z m1 rfl
    ·exact m2 hz'
  ·show ItemsOut S2 w ((.ptr o,b,v)::its) _ _
   unfold ItemsOut
   rw[bw (show(PM.ptr o).back=true from rfl)]
   have hd2:=k S2 fun z hz=>hS z (hz.imp (fun q=>q) (ax _))
   unfold dw at hd2
   rw[bw rfl]at hd2
   exact⟨_,ys',G',F',rfl,rfl,⟨y,rfl,hd2⟩,k3 S2 fun z hz=>hS z (hz.imp (fun q=>q) (ay _))⟩
end
end
section
def Runs(P:Program)(f:FuncId)(R:Value→World→Prop)(todo:List Item)(a:Act)(w:World):Prop :=
 ∀ (b:Frame) (cs:List Frame),b.fn=f→b.kind = .normal→∃ v w' fr,R v w'∧Steps P (lone (b.at a todo) cs w) (lone fr cs w')∧fr.fn=f∧fr.leaving P w' (.returned v)
section
variable {P:Program} {f:FuncId} {R:Value→World→Prop} {a:Act} {w:World} {k:List Item}
theorem Runs.step{todo:List Item}(h:Runs P f R todo a w){todo0:List Item}(hs:∀ (b:Frame) (cs:List Frame),step P (lone (b.at a todo0) cs w) = .next (lone (b.at a todo) cs w)):Runs P f R todo0 a w :=
 fun b cs hf hk=>let ⟨v,w',fr,h1,h2,h3⟩:=h b cs hf hk;⟨v,w',fr,h1,.head (hs b cs) h2,h3⟩
theorem Vx(h:Runs P f R k a w):Runs P f R (.code .skip::k) a w:=h.step fun _ _=>step_skip
theorem JD{id:Nat}(h:Runs P f R k a w):Runs P f R (.inBlock id::k) a w:=h.step fun _ _=>step_inBlock
theorem Vw{x y:Code}(h:Runs P f R (.code x :: .code y::k) a w):Runs P f R (.code (.seq x y)::k) a w:=h.step fun _ _=>step_seq
theorem JC{c:Operand}{x y:Code}{t:Bool}(hc:a.eval c = .bool t)(h:Runs P f R (.code (if t then x else y)::k) a w):Runs P f R (.code (.cond c x y)::k) a w:=h.step fun _ _=>step_cond hc
theorem Vr{id:Nat}{c:Code}(h:Runs P f R (.code c :: .inBlock id::k) a w):Runs P f R (.code (.block id c)::k) a w:=h.step fun _ _=>step_block
theorem Vu{c:Code}(h:Runs P f R (.code c :: .inLoop c::k) a w):Runs P f R (.code (.loop c)::k) a w:=h.step fun _ _=>step_loop
theorem JE{c:Code}(h:Runs P f R (.code c :: .inLoop c::k) a w):Runs P f R (.inLoop c::k) a w:=h.step fun _ _=>step_inLoop
theorem Vt{id:Nat}{k':List Item}(he:exitTo id k=some k')(h:Runs P f R k' a w):Runs P f R (.code (.exit id)::k) a w:=h.step fun _ _=>step_exit he
theorem Vv{fn:Func}(hfn:P.funcs[f]? = some fn)(hd:a.defers=[]){v:Value}(hr:(results fn a.tmps).run P w = .ok v w)(hR:R v w):Runs P f R (.code .ret::k) a w :=
 fun b cs hf hk=>⟨v,w,_,hR,.one step_ret,hf,rfl,hd,hk,fn,by rw[show(b.at a (.code .ret::k)).fn=b.fn from rfl,hf];exact hfn,hr⟩
theorem Vs{fn:Func}(hfn:P.funcs[f]? = some fn)(hd:a.defers=[]){v:Value}(hr:(results fn a.tmps).run P w = .ok v w)(hR:R v w):Runs P f R [] a w :=
 fun b cs hf hk=>⟨v,w,_,hR,.one step_end,hf,rfl,hd,hk,fn,by rw[show(b.at a []).fn=b.fn from rfl,hf];exact hfn,hr⟩
theorem JF{c:Code}(h:c.wp P (fun e a w=>match e with | .normal=>Runs P f R k a w | _=>False) a w):Runs P f R (.code c::k) a w:=by
 intro b cs hf hk
 obtain⟨e,a',w',hq,harr⟩:=h b k cs
 cases e with
 | normal =>
  obtain⟨v,w2,fr,h1,h2,h3⟩:=hq b cs hf hk
  exact⟨v,w2,fr,h1,Steps.trans harr h2,h3⟩
 | _=>exact hq.elim
end
def dF:Code→List Bool→List Item→Option (Code×List Item)
 | c,[],k=>some (c,k)
 | .seq a b,false::ds,k=>dF a ds (.code b::k)
 | .seq _ b,true::ds,k=>dF b ds k
 | .cond _ a _,false::ds,k=>dF a ds k
 | .cond _ _ b,true::ds,k=>dF b ds k
 | .block i a,false::ds,k=>dF a ds (.inBlock i::k)
 | .loop a,false::ds,k=>dF a ds (.inLoop a::k)
 | _,_,_=>none
theorem gC:∀ (ds:List Bool) (c:Code) (k:List Item) (es:List Bool) {c':Code} {k':List Item},dF c ds k=some (c',k')→dF c (ds++es) k=dF c' es k'
 | [],c,k,es,c',k',h=>by
  have h':some (c,k)=some (c',k'):=by cases c <;> exact h
  cases h'
  rfl
 | d::ds,c,k,es,c',k',h=>by
  cases c <;> cases d <;> first | exact b7 h | exact gC ds _ _ es h
def num(ds:List Bool):Nat:=ds.foldl (fun p b=>2*p+(if b then 1 else 0)) 1
theorem kO(ds:List Bool)(b:Bool):num (ds++[b])=2*num ds+(if b then 1 else 0):=by
 unfold num;rw[List.foldl_append];rfl
def iz:List Bool→Nat
 | []=>1
 | b::l=>2*iz l+(if b then 1 else 0)
theorem xy:∀ l,1≤iz l
 | []=>aK _
 | b::l=>by have:=xy l;simp only[iz];omega
theorem xw:∀ (l l':List Bool),iz l=iz l'→l=l'
 | [],[],_=>rfl
 | [],b::l,h=>by have:=xy l;simp only[iz]at h;omega
 | b::l,[],h=>by have:=xy l;simp only[iz]at h;omega
 | b::l,b'::l',h=>by
  simp only[iz]at h
  cases b <;> cases b' <;> simp at h
  ·rw[xw l l' (by omega)]
  ·exfalso;omega
  ·exfalso;omega
  ·rw[xw l l' (by omega)]
theorem IY:∀ (l:List Bool),iz l=l.foldr (fun b p=>2*p+(if b then 1 else 0)) 1
 | []=>rfl
 | b::l=>by rw[iz,IY l];rfl
theorem IZ(ds:List Bool):num ds=iz ds.reverse:=by
 rw[IY,List.foldr_reverse];rfl
theorem Uf{ds ds':List Bool}(h:num ds=num ds'):ds=ds':=by
 rw[IZ,IZ]at h
 exact List.reverse_inj.1 (xw _ _ h)
def mU:Code→List Item→List Item
 | .loop a,k=>.code a :: .inLoop a::k
 | c,k=>.code c::k
theorem sS{P:Program}{f:FuncId}{R:Value→World→Prop}{a:Act}{w:World}{c:Code}{k:List Item}(h:Runs P f R (mU c k) a w):Runs P f R (.code c::k) a w:=by
 cases c with
 | loop x=>exact Vu h
 | _=>exact h
section
variable {T:Tab} {Fa:cr T.Z} {e:Nat} {C:Ctx} {y:Bs T.G.T (eR (T.ent e))} {R:Value→World→Prop}
structure Within (T:Tab) (Fa:cr T.Z) (e:Nat) (C:Ctx) (y:Bs T.G.T (eR (T.ent e))) (R:Value→World→Prop):Prop where
 base:Base T.E Fa C (T.ent e).f
 joins:∀ p κ,iV (T.ent e).joins p=some κ→num (T.key κ).dirs=p
 keys:∀ κ (h:(T.key κ).ent=e) (x:Bs T.G.T (T.Z.inp κ)) (y':Bs T.G.T (T.Z.out κ)),Fa κ x=some y'→cast (by show Bs T.G.T (eR (T.ent (T.key κ).ent))=_;rw[h]) y'=y →
  ∀ c k,dF (T.ent e).code (T.key κ).dirs []=some (c,k)→∀ a w,df C (cV (T.key κ).forms x) a w→Runs C.P (T.ent e).fn R (mU c k) a w
 ret:∀ σ a w,df C σ a w→T.retC Fa e σ=some y→(∀ k,Runs C.P (T.ent e).fn R (.code .ret::k) a w)∧Runs C.P (T.ent e).fn R [] a w
theorem My{ρ:Type}{a b:Option ρ}{y:ρ}(h:amb a b=some y):a=some y∧b=some y:=by
 unfold amb at h
 split at h
 ·rename_i e;subst e;exact⟨h,h⟩
 ·cases h
theorem Qp(hW:Within T Fa e C y R){κ:Nat}{σ:St T.G}{a:Act}{w:World}(hM:df C σ a w)(hm:T.toKey Fa e κ σ=some y){c:Code}{k:List Item}(hw:dF (T.ent e).code (T.key κ).dirs []=some (c,k)):Runs C.P (T.ent e).fn R (mU c k) a w:=by
 unfold Tab.toKey at hm
 obtain⟨ds,σ1,h1,h2⟩:=lO (E:=T.E) hm
 cases hc:fv T.E (T.Z.inp κ) ds with
 | none=>rw[hc]at h2;exact b7 h2
 | some x =>
  rw[hc]at h2
  simp only at h2
  split at h2
  ·rename_i he
   subst he
   exact hW.keys κ rfl x y h2 rfl c k hw a w (Qo hW.base.np hM h1 hc)
  ·exact b7 h2
theorem pU(hW:Within T Fa e C y R){ps:List Bool}{c:Code}{k:List Item}(hw:dF (T.ent e).code ps []=some (c,k)){K:T.Co e}{todo:List Item}(hgo:∀ a w,Runs C.P (T.ent e).fn R (mU c k) a w→Runs C.P (T.ent e).fn R todo a w)
  (hK:∀ σ a w,df C σ a w→K σ=some y→Runs C.P (T.ent e).fn R todo a w):∀ σ a w,df C σ a w→T.join Fa e (num ps) K σ=some y→Runs C.P (T.ent e).fn R todo a w:=by
 intro σ a w hM hm
 unfold Tab.join at hm
 cases hl:iV (T.ent e).joins (num ps) with
 | none=>rw[hl]at hm;exact hK σ a w hM hm
 | some κ =>
  rw[hl]at hm
  have hd:=Uf (hW.joins _ _ hl)
  exact hgo a w (Qp hW hM hm (by rw[hd];exact hw))
def qW(C:Ctx)(f:FuncId)(R:Value→World→Prop)(y:Bs T.G.T (eR (T.ent e)))(ctx:List (Nat×T.Co e))(k:List Item):Prop :=
 ∀ i K,ik ctx i=some K→∃ k',exitTo i k=some k'∧∀ σ a w,df C σ a w→K σ=some y→Runs C.P f R k' a w
theorem GI{f:FuncId}{ctx:List (Nat×T.Co e)}{k:List Item}{K:T.Co e}{i:Nat}(hC:qW (T:=T) C f R y ctx k)(hK:∀ σ a w,df C σ a w→K σ=some y→Runs C.P f R k a w):qW (T:=T) C f R y ((i,K)::ctx) (.inBlock i::k):=by
 intro j K' hj
 simp only[ik]at hj
 cases hb:Nat.beq i j with
 | true =>
  rw[hb]at hj
  obtain rfl:=aR hj
  exact⟨k,by simp[exitTo,cn hb],hK⟩
 | false =>
  rw[hb]at hj
  obtain⟨k',h1,h2⟩:=hC j K' hj
  have hne:¬ i=j:=fun e=>by rw[e]at hb;simp at hb
  exact⟨k',by simp[exitTo,hne,h1],h2⟩
def qX(T:Tab)(Fa:cr T.Z)(e:Nat)(C:Ctx)(y:Bs T.G.T (eR (T.ent e)))(R:Value→World→Prop):Prop:=∀ (id:Nat) (ops:Array Oper) (k:List Item) (K:T.Co e),(∀ σ a w,df C σ a w→K σ=some y→Runs C.P (T.ent e).fn R k a w)→∀ σ a w,df C σ a w →
 (ej (E:=T.E) (T.ent e).f Fa ops ops.toList σ [] fun σ L=>bif jv 0 ops.toList&&ordered (Region.before ops) L then K σ else none)=some y→Runs C.P (T.ent e).fn R (.code (.region id ops true)::k) a w
theorem jx(hW:Within T Fa e C y R)(hD:qX T Fa e C y R):∀ (c:Code) (ps:List Bool) (k:List Item) (ctx:List (Nat×T.Co e)) (K:T.Co e),dF (T.ent e).code ps []=some (c,k)→(∀ σ a w,df C σ a w→K σ=some y→Runs C.P (T.ent e).fn R k a w)→qW (T:=T) C (T.ent e).fn R y ctx k →
  ∀ σ a w,df C σ a w→evC T Fa e c (num ps) ctx K σ=some y→Runs C.P (T.ent e).fn R (.code c::k) a w:=by
 intro c
 induction c with
 | skip=>intro ps k ctx K hw hK hC σ a w hM hm;exact Vx (hK σ a w hM hm)
 | region id ops draw =>
  intro ps k ctx K hw hK hC σ a w hM hm
  cases draw with
  | false=>exact JF (Va hW.base (K:=K) (y:=y) (Q:=fun ex a w=>match ex with | .normal=>Runs C.P (T.ent e).fn R k a w | _=>False) (fun σ a w hM hm=>hK σ a w hM hm) hM hm)
  | true=>exact hD id ops k K hK σ a w hM hm
 | seq x z ihx ihz =>
  intro ps k ctx K hw hK hC σ a w hM hm
  have w1:dF (T.ent e).code (ps++[false]) []=some (x,.code z::k):=by rw[gC ps _ _ [false] hw];cases x <;> rfl
  have w2:dF (T.ent e).code (ps++[true]) []=some (z,k):=by rw[gC ps _ _ [true] hw];cases z <;> rfl
  have n1:num (ps++[false])=2*num ps:=by rw[kO];rfl
  have n2:num (ps++[true])=2*num ps+1:=by rw[kO];rfl
  refine Vw (ihx (ps++[false]) (.code z::k) ctx (T.join Fa e (2*num ps+1) (evC T Fa e z (2*num ps+1) ctx K)) w1 (fun σ a w hM hm=>?_) (fun i K' hi=>?_) σ a w hM (by rw[n1];exact hm))
  ·refine pU hW w2 (fun a w h=>sS h) (K:=evC T Fa e z (2*num ps+1) ctx K) (fun σ a w hM hm=>?_) σ a w hM (by rw[n2];exact hm)
   exact ihz (ps++[true]) k ctx K w2 hK hC σ a w hM (by rw[n2];exact hm)
  ·obtain⟨k',h1,h2⟩:=hC i K' hi
   exact⟨k',h1,h2⟩
 | cond x p q ihp ihq =>
  intro ps k ctx K hw hK hC σ a w hM hm
  have w1:dF (T.ent e).code (ps++[false]) []=some (p,k):=by rw[gC ps _ _ [false] hw];cases p <;> rfl
  have w2:dF (T.ent e).code (ps++[true]) []=some (q,k):=by rw[gC ps _ _ [true] hw];cases q <;> rfl
  have n1:num (ps++[false])=2*num ps:=by rw[kO];rfl
  have n2:num (ps++[true])=2*num ps+1:=by rw[kO];rfl
  obtain⟨pin,σ1,h1,h2⟩:=lO (E:=T.E) hm
  obtain⟨S,F,V,hO⟩:=hM
  obtain⟨rfl,hp⟩:=cY (E:=T.E) hO h1
  cases hb:asB pin with
  | none =>
   rw[hb]at h2
   dsimp only at h2
   cases hi:wZ (E:=T.E) pin with
   | false=>rw[hi]at h2;exact b7 h2
   | true =>
    rw[hi]at h2
    obtain⟨e1,e2⟩:=My h2
    obtain⟨b,hv⟩:∃ b,a.eval x = .bool b:=by
     cases pin <;> first | exact hp | cases hi
    refine JC hv ?_
    cases b with
    | true=>exact ihp (ps++[false]) k ctx K w1 hK hC σ1 a w ⟨S,F,V,hO⟩ (by rw[n1];exact e1)
    | false=>exact ihq (ps++[true]) k ctx K w2 hK hC σ1 a w ⟨S,F,V,hO⟩ (by rw[n2];exact e2)
  | some t =>
   rw[hb]at h2
   have hv:=FS (E:=T.E) hp hb
   refine JC hv ?_
   cases t with
   | true=>exact ihp (ps++[false]) k ctx K w1 hK hC σ1 a w ⟨S,F,V,hO⟩ (by rw[n1];exact h2)
   | false=>exact ihq (ps++[true]) k ctx K w2 hK hC σ1 a w ⟨S,F,V,hO⟩ (by rw[n2];exact h2)
 | block i x ih =>
  intro ps k ctx K hw hK hC σ a w hM hm
  have w1:dF (T.ent e).code (ps++[false]) []=some (x,.inBlock i::k):=by rw[gC ps _ _ [false] hw];cases x <;> rfl
  have n1:num (ps++[false])=2*num ps:=by rw[kO];rfl
  exact Vr (ih (ps++[false]) (.inBlock i::k) ((i,K)::ctx) K w1 (fun σ a w hM hm=>JD (hK σ a w hM hm)) (GI hC hK) σ a w hM (by rw[n1];exact hm))
 | loop x ih =>
  intro ps k ctx K hw hK hC σ a w hM hm
  exact pU hW hw (fun a w h=>sS h) (K:=fun _=>none) (fun σ a w hM hm=>b7 hm) σ a w hM hm
 | exit i =>
  intro ps k ctx K hw hK hC σ a w hM hm
  have hm':(match ik ctx i with | some K'=>K' | none=>fun _=>none) σ=some y:=hm
  cases hc:ik ctx i with
  | none=>rw[hc]at hm';exact b7 hm'
  | some K' =>
   rw[hc]at hm'
   obtain⟨k',h1,h2⟩:=hC i K' hc
   exact Vt h1 (h2 σ a w hM hm')
 | ret=>intro ps k ctx K hw hK hC σ a w hM hm;exact(hW.ret σ a w hM hm).1 k
 | scope x ih=>intro ps k ctx K hw hK hC σ a w hM hm;exact b7 hm
 | _=>intro ps k ctx K hw hK hC σ a w hM hm;exact b7 hm
theorem lN(hW:Within T Fa e C y R)(hD:qX T Fa e C y R):∀ (ds:List Bool) (c:Code) (ps:List Bool) (k:List Item) (ctx:List (Nat×T.Co e)) (K:T.Co e),dF (T.ent e).code ps []=some (c,k)→(∀ σ a w,df C σ a w→K σ=some y→Runs C.P (T.ent e).fn R k a w)→qW (T:=T) C (T.ent e).fn R y ctx k →
  ∀ c' k',dF c ds k=some (c',k')→∀ σ a w,df C σ a w→il T Fa e c ds (num ps) ctx K σ=some y→Runs C.P (T.ent e).fn R (mU c' k') a w
 | [],c,ps,k,ctx,K,hw,hK,hC,c',k',hwk,σ,a,w,hM,hm=>by
  have hwk':some (c,k)=some (c',k'):=by cases c <;> exact hwk
  cases hwk'
  cases c with
  | loop x =>
   have w1:dF (T.ent e).code (ps++[false]) []=some (x,.inLoop x::k):=by rw[gC ps _ _ [false] hw];cases x <;> rfl
   have n1:num (ps++[false])=2*num ps:=by rw[kO];rfl
   refine jx hW hD x (ps++[false]) (.inLoop x::k) ctx (T.join Fa e (num ps) fun _=>none) w1 (fun σ a w hM hm=>?_) (fun i K' hi=>?_) σ a w hM (by rw[n1];exact hm)
   ·exact pU hW hw (fun a w h=>JE h) (K:=fun _=>none) (fun σ a w hM hm=>b7 hm) σ a w hM hm
   ·obtain⟨k',h1,h2⟩:=hC i K' hi
    exact⟨k',h1,h2⟩
  | skip=>exact jx hW hD _ ps k ctx K hw hK hC σ a w hM hm
  | region id ops draw=>exact jx hW hD _ ps k ctx K hw hK hC σ a w hM hm
  | seq x z=>exact jx hW hD _ ps k ctx K hw hK hC σ a w hM hm
  | cond x p q=>exact jx hW hD _ ps k ctx K hw hK hC σ a w hM hm
  | block i x=>exact jx hW hD _ ps k ctx K hw hK hC σ a w hM hm
  | exit i=>exact jx hW hD _ ps k ctx K hw hK hC σ a w hM hm
  | ret=>exact jx hW hD _ ps k ctx K hw hK hC σ a w hM hm
  | _=>exact b7 hm
 | d::ds,c,ps,k,ctx,K,hw,hK,hC,c',k',hwk,σ,a,w,hM,hm=>by
  have n1:num (ps++[false])=2*num ps:=by rw[kO];rfl
  have n2:num (ps++[true])=2*num ps+1:=by rw[kO];rfl
  cases c with
  | seq x z =>
   have w2:dF (T.ent e).code (ps++[true]) []=some (z,k):=by rw[gC ps _ _ [true] hw];cases z <;> rfl
   cases d with
   | false =>
    have w1:dF (T.ent e).code (ps++[false]) []=some (x,.code z::k):=by rw[gC ps _ _ [false] hw];cases x <;> rfl
    refine lN hW hD ds x (ps++[false]) (.code z::k) ctx (T.join Fa e (2*num ps+1) (evC T Fa e z (2*num ps+1) ctx K)) w1 (fun σ a w hM hm=>?_) (fun i K' hi=>?_) c' k' hwk σ a w hM (by rw[n1];exact hm)
    ·refine pU hW w2 (fun a w h=>sS h) (K:=evC T Fa e z (2*num ps+1) ctx K) (fun σ a w hM hm=>?_) σ a w hM (by rw[n2];exact hm)
     exact jx hW hD z (ps++[true]) k ctx K w2 hK hC σ a w hM (by rw[n2];exact hm)
    ·obtain⟨k',h1,h2⟩:=hC i K' hi
     exact⟨k',h1,h2⟩
   | true=>exact lN hW hD ds z (ps++[true]) k ctx K w2 hK hC c' k' hwk σ a w hM (by rw[n2];exact hm)
  | cond x p q =>
   cases d with
   | false =>
    have w1:dF (T.ent e).code (ps++[false]) []=some (p,k):=by rw[gC ps _ _ [false] hw];cases p <;> rfl
    exact lN hW hD ds p (ps++[false]) k ctx K w1 hK hC c' k' hwk σ a w hM (by rw[n1];exact hm)
   | true =>
    have w2:dF (T.ent e).code (ps++[true]) []=some (q,k):=by rw[gC ps _ _ [true] hw];cases q <;> rfl
    exact lN hW hD ds q (ps++[true]) k ctx K w2 hK hC c' k' hwk σ a w hM (by rw[n2];exact hm)
  | block i x =>
   cases d with
   | false =>
    have w1:dF (T.ent e).code (ps++[false]) []=some (x,.inBlock i::k):=by rw[gC ps _ _ [false] hw];cases x <;> rfl
    exact lN hW hD ds x (ps++[false]) (.inBlock i::k) ((i,K)::ctx) K w1 (fun σ a w hM hm=>JD (hK σ a w hM hm)) (GI hC hK) c' k' hwk σ a w hM (by rw[n1];exact hm)
   | true=>exact b7 hwk
  | loop x =>
   cases d with
   | false =>
    have w1:dF (T.ent e).code (ps++[false]) []=some (x,.inLoop x::k):=by rw[gC ps _ _ [false] hw];cases x <;> rfl
    refine lN hW hD ds x (ps++[false]) (.inLoop x::k) ctx (T.join Fa e (num ps) fun _=>none) w1 (fun σ a w hM hm=>?_) (fun i K' hi=>?_) c' k' hwk σ a w hM (by rw[n1];exact hm)
    ·exact pU hW hw (fun a w h=>JE h) (K:=fun _=>none) (fun σ a w hM hm=>b7 hm) σ a w hM hm
    ·obtain⟨k',h1,h2⟩:=hC i K' hi
     exact⟨k',h1,h2⟩
   | true=>exact b7 hwk
  | _=>cases d <;> exact b7 hwk
end
end
section
def jG(i:Nat):Nat→List BT→List (Nat×IoK)→Option (List (Nat×IoK))
 | _,[],ios=>some ios
 | j,_::bs,(s,.box)::ios=>if Nat.beq s (16*i+j)=true then jG i (j+1) bs ios else none
 | _,_,_=>none
def cR:Nat→List Mode→List (Nat×IoK)→Bool
 | _,[],ios=>ios.isEmpty
 | i,.val _::ms,ios=>cR (i+1) ms ios
 | i,.own _::ms,ios=>cR (i+1) ms ios
 | i,.io _::ms,(s,.reg)::ios=>Nat.beq s (16*i)&&cR (i+1) ms ios
 | i,.io _::ms,(s,.orig j)::ios=>Nat.beq j i&&cR (i+1) ms ios
 | i,.ptr _ _::ms,(s,.box)::ios=>Nat.beq s (16*i)&&cR (i+1) ms ios
 | i,.ref _ _ _ _::ms,(s,.box)::(s',.box)::ios=>Nat.beq s (16*i)&&(Nat.beq s' (16*i+1)&&cR (i+1) ms ios)
 | i,.clo _ bs::ms,ios=>Nat.ble bs.length 16&&(match jG i 0 bs ios with
  | some rest=>cR (i+1) ms rest
  | none=>false)
 | _,_,_=>false
structure EntOK (T:Tab) (P:Program) (e:Nat):Prop where
 fn : ∃ f, P.funcs[(T.ent e).fn]? = some f ∧ f.body = some (T.ent e).code ∧ f.results.toList = (T.ent e).results ∧ f.ntmps = (T.ent e).nt ∧ (f.name == "runtime.NumGoroutine") = false
 np:(T.ent e).modes.length≤(T.ent e).nt
 res:(T.ent e).results.length=(T.ent e).res.length
 joins:∀ p κ,iV (T.ent e).joins p=some κ→num (T.key κ).dirs=p
 ios:cR 0 (T.ent e).modes (T.ent e).ios=true
 ex:(T.ent e).ex=false
structure ExtOK (T:Tab) (P:Program) (f:FuncId) (k:Nat):Prop where
 ex:(T.ent (T.key k).ent).ex=true
 inp:T.Z.inp k=fV (T.ent (T.key k).ent).modes
 does:∀ x y,T.ext k x=some y→∀ (w:World) (S0:Nat→Prop) (F0:List Nat) (vs:List Value) (vits:List (PM×BT×Value)),eO (T.ent (T.key k).ent).modes vs vits→dR w (T.ent (T.key k).ent).modes vits→fe (G:=T.G) S0 w vits (cL (T.Z.inp k) x) F0→F0.Nodup→(∀ b∈F0,¬ S0 b∧b<w.heap.size)→(∀ b,S0 b→b<w.heap.size)→Laid P T.tabs S0 w →
  Does P f vs.toArray w (mZ (G:=T.G) (T.ent (T.key k).ent).modes (T.ent (T.key k).ent).res.length vits (cL (T.Z.out k) y) S0 F0 w)
structure TabOK (T:Tab) (P:Program):Prop where
 ty:∀ t ft,T.ty t=some ft→dh T.G P T.ty t ft=true
 ifc:∀ t,T.ifc t=true→mf P t=true
 fnt:∀ t,T.fnt t=true→nG P t=true
 call:∀ f cs k,T.call f cs=some k→(EntOK T P (T.key k).ent∧(T.ent (T.key k).ent).fn=f∧(T.key k).dirs=[]∧(T.key k).forms=dE 0 (T.ent (T.key k).ent).modes)∨ExtOK T P f k
theorem Ld(i:Nat)(fs:List Form):∀ (bs:List BT) (j:Nat),cE (gg i j bs++fs)=bs++cE fs
 | [],j=>rfl
 | b::bs,j=>by show b::cE (gg i (j+1) bs++fs)=b::(bs++cE fs);rw[Ld i fs bs (j+1)]
theorem md:∀ (ms:List Mode) (i:Nat),cE (dE i ms)=fV ms
 | [],i=>rfl
 | .val b::ms,i=>by show b::cE (dE (i+1) ms)=b::fV ms;rw[md ms]
 | .own b::ms,i=>by show b::cE (dE (i+1) ms)=b::fV ms;rw[md ms]
 | .io b::ms,i=>by show b::cE (dE (i+1) ms)=b::fV ms;rw[md ms]
 | .ptr b _::ms,i=>by show b::cE (dE (i+1) ms)=b::fV ms;rw[md ms]
 | .clo f bs::ms,i=>by show cE (gg i 0 bs++dE (i+1) ms)=bs++fV ms;rw[Ld,md ms]
 | .ref b _ b' _::ms,i=>by show b::b'::cE (dE (i+1) ms)=b::b'::fV ms;rw[md ms]
theorem wg(id:Nat):∀ (fs fs':List Form),cI id (fs++fs')=(cI id fs||cI id fs')
 | [],fs'=>by simp[cI]
 | f::fs,fs'=>by cases f <;> simp[cI,wg id fs fs',Bool.or_assoc]
theorem Hs(id:Nat):∀ (fs fs':List Form),dz id (fs++fs')=(dz id fs||dz id fs')
 | [],fs'=>by simp[dz]
 | f::fs,fs'=>by cases f <;> simp[dz,Hs id fs fs',Bool.or_assoc]
theorem BG(i id:Nat):∀ (bs:List BT) (j:Nat),cI id (gg i j bs)=true→16*i+j≤id
 | [],j,h=>by cases h
 | b::bs,j,h=>by
  simp only[gg,cI,aY]at h
  rcases h with h | h
  ·rw[← cn h];exact aK _
  ·have:=BG i id bs (j+1) h;omega
theorem mc(id:Nat):∀ (ms:List Mode) (i:Nat),cI id (dE i ms)=true→16*i≤id
 | [],i,h=>by cases h
 | .val b::ms,i,h=>by have:=mc id ms (i+1) h;omega
 | .own b::ms,i,h=>by
  simp only[dE,cI,aY]at h
  rcases h with h | h
  ·rw[← cn h];exact aK _
  ·have:=mc id ms (i+1) h;omega
 | .io b::ms,i,h=>by
  simp only[dE,cI,aY]at h
  rcases h with h | h
  ·rw[← cn h];exact aK _
  ·have:=mc id ms (i+1) h;omega
 | .ptr b _::ms,i,h=>by
  simp only[dE,cI,aY]at h
  rcases h with h | h
  ·rw[← cn h];exact aK _
  ·have:=mc id ms (i+1) h;omega
 | .clo f bs::ms,i,h=>by
  simp only[dE,cI,wg,aY]at h
  rcases h with h | h
  ·have:=BG i id bs 0 h;omega
  ·have:=mc id ms (i+1) h;omega
 | .ref b _ b' _::ms,i,h=>by
  simp only[dE,cI,aY]at h
  rcases h with h | h | h
  ·rw[← cn h];exact aK _
  ·have:=cn h;omega
  ·have:=mc id ms (i+1) h;omega
theorem nD(i id:Nat)(ms:List Mode)(h:id<16*(i+1)):cI id (dE (i+1) ms)=false:=by
 cases hb:cI id (dE (i+1) ms) with
 | false=>rfl
 | true=>have:=mc id ms (i+1) hb;omega
theorem Lc(i:Nat):∀ (bs:List BT) (j id:Nat),id∈pJ i j bs→dz id (gg i j bs)=true
 | b::bs,j,id,h=>by
  rcases aO.1 h with rfl | h
  ·simp[gg,dz]
  ·simp only[gg,dz,aY];exact .inr (Lc i bs (j+1) id h)
 | [],j,id,h=>by cases h
def LK(m:Mode)(v:Value)(its:List (PM×BT×Value))(j:Nat):Value :=
 match m with
 | .clo _ _=>(match v with | .func _ _ ws=>ws.getD j undef | _=>undef)
 | .ref _ _ _ _=>if j=1 then(match its with | _::c::_=>c.2.2 | _=>undef)else v
 | _=>v
def hU:Nat→List Mode→List Value→List (PM×BT×Value)→Nat→Value
 | i,m::ms,v::vs,its,s=>if s/16=i then LK m v its (s%16)else hU (i+1) ms vs (its.drop m.inp.length) s
 | _,_,_,_,_=>undef
def Mt(V:Nat→Value)(i:Nat)(m:Mode)(v:Value)(its:List (PM×BT×Value)):Prop :=
 match m with
 | .clo f bs=>∀ ws:Array Value,v = .func (.func f) #[] ws→∀ j,j<16→V (16*i+j)=ws.getD j undef
 | .ref _ _ _ _=>V (16*i)=v∧∀ a c r,its=a::c::r→V (16*i+1)=c.2.2
 | _=>V (16*i)=v
def ia(V:Nat→Value):Nat→List Mode→List Value→List (PM×BT×Value)→Prop
 | i,m::ms,v::vs,its=>Mt V i m v its∧ia V (i+1) ms vs (its.drop m.inp.length)
 | _,_,_,_=>True
theorem EY{V:Nat→Value}:∀ (ms:List Mode) (i:Nat) (vs:List Value) (its:List (PM×BT×Value)),(∀ s,i≤s/16→V s=hU i ms vs its s)→ia V i ms vs its
 | [],i,vs,its,h=>by cases vs <;> trivial
 | m::ms,i,[],its,h=>trivial
 | m::ms,i,v::vs,its,h=>by
  have tail:∀ s,i+1≤s/16→V s=hU (i+1) ms vs (its.drop m.inp.length) s:=by
   intro s hs
   have hne:¬ s/16=i:=by omega
   rw[h s (by omega)]
   simp only[hU,bz hne]
  have ih:=EY ms (i+1) vs _ tail
  have at_:∀ j,j<16→V (16*i+j)=LK m v its j:=by
   intro j hj
   have e1:(16*i+j)/16=i:=by omega
   have e2:(16*i+j)%16=j:=by omega
   rw[h (16*i+j) (by omega)]
   simp only[hU,bw e1,e2]
  refine⟨?_,ih⟩
  have a0:=at_ 0 (by omega)
  have a1:=at_ 1 (by omega)
  rw[Nat.add_zero]at a0
  cases m with
  | clo f bs =>
   intro ws hv j hj
   rw[at_ j hj]
   subst hv
   rfl
  | val b=>exact a0
  | own b=>exact a0
  | io b=>exact a0
  | ptr b _=>exact a0
  | ref b o b' o' =>
   refine⟨a0,fun a c r e=>?_⟩
   rw[a1,e]
   rfl
section
variable {G:Gam} {S:Nat→Prop} {w:World} {V v V0:Nat→Value}
theorem H9{V:Nat→Value}(i:Nat):∀ (bs:List BT) (j:Nat) (ws:List Value),ws.length=bs.length→(∀ k,k<bs.length→V (16*i+(j+k))=ws.getD k undef)→ws=(pJ i j bs).map V
 | [],j,[],_,_=>rfl
 | b::bs,j,u::ws,hl,h=>by
  simp only[pJ,bj]
  have h0:=h 0 (by simp)
  simp at h0
  rw[h0,← H9 i bs (j+1) ws (by simpa using hl) fun k hk=>by
   have:=h (k+1) (by simpa using hk)
   rw[show j+1+k=j+(k+1) by omega,this];simp]
 | [],j,_::_,hl,_=>by simp at hl
 | _::_,j,[],hl,_=>by simp at hl
theorem Ht(i:Nat)(ms:List Mode):∀ (bs:List BT) (j:Nat) (ws:List Value) (its:List (PM×BT×Value)) (ds:List (DV G.T)) (F:List Nat),ws.length=bs.length→j+bs.length≤16→(∀ k,k<bs.length→V (16*i+(j+k))=ws.getD k undef) →
  fe S w (eX bs ws++its) ds F→(∀ (ds':List (DV G.T)) (F':List Nat),fe (G:=G) S w its ds' F'→eD (G:=G) S w V v V0 (dE (i+1) ms) ds' F')→eD S w V v V0 (gg i j bs++dE (i+1) ms) ds F
 | [],j,[],its,ds,F,_,_,_,hi,hr=>hr ds F hi
 | b::bs,j,u::ws,its,ds,F,hl,hj,hw,hi,hr=>by
  obtain⟨d,ds',F1,F2,e1,e2,⟨x,hd,blk,c,E0,F',k1,k2,k3,k4⟩,h2⟩:=hi
  simp only[aW]at hj
  refine⟨?_,x,ds',F1,F2,by rw[e1,hd],e2,?_,fun i hi=>(by cases hi),Ht i ms bs (j+1) ws its ds' F2 (by simpa using hl) (by omega) (fun k hk=>?_) h2 hr⟩
  ·show cI (16*i+j) (gg i (j+1) bs++dE (i+1) ms)=false
   rw[wg]
   have h1:cI (16*i+j) (gg i (j+1) bs)=false:=by
    cases hb:cI (16*i+j) (gg i (j+1) bs) with
    | false=>rfl
    | true=>have:=BG i _ bs (j+1) hb;omega
   rw[h1,nD i _ ms (by omega)];rfl
  ·have h0:=hw 0 (by simp)
   simp at h0
   unfold dw
   rw[bw rfl,h0]
   exact⟨blk,c,E0,F',k1,k2,k3,k4⟩
  ·have:=hw (k+1) (by simpa using hk)
   rw[show j+1+k=j+(k+1) by omega,this];simp
 | [],j,_::_,its,ds,F,hl,_,_,_,_=>by simp at hl
 | _::_,j,[],its,ds,F,hl,_,_,_,_=>by simp at hl
theorem lQ:∀ (ms:List Mode) (i:Nat) (vs:List Value) (vits:List (PM×BT×Value)) (ds:List (DV G.T)) (F:List Nat) (ios:List (Nat×IoK)),eO ms vs vits→fe S w vits ds F→(∀ k,k<vs.length→v (i+k)=vs.getD k undef)→ia V i ms vs vits→dR w ms vits→cR i ms ios=true→eD S w V v V0 (dE i ms) ds F
 | [],i,vs,vits,ds,F,ios,hf,hi,hv,hw,hlk,ho=>by
  obtain⟨rfl,rfl⟩:=hf
  exact hi
 | m::ms,i,vs,vits,ds,F,ios,hf,hi,hv,hw,hlk,ho=>by
  obtain⟨u,vs',i1,i2,rfl,rfl,h1,h2⟩:=hf
  have hv0:v i=u:=by have:=hv 0 (by simp);simpa using this
  have hv':∀ k,k<vs'.length→v (i+1+k)=vs'.getD k undef:=by
   intro k hk
   have:=hv (k+1) (by simpa using hk)
   rw[show i+1+k=i+(k+1) by omega,this];simp
  cases m with
  | val b =>
   have:i1=[(.val,b,u)]:=h1
   subst this
   obtain⟨d,ds',F1,F2,e1,e2,⟨x,hd,k1,k2,k3,k4⟩,hi'⟩:=hi
   subst k4
   have ih:=lQ ms (i+1) vs' i2 ds' F2 ios h2 hi' hv' hw.2 hlk ho
   refine⟨k3,x,ds',by rw[e1,hd],by rw[hv0];exact k1,by rw[hv0];exact k2,?_⟩
   rw[e2];exact ih
  | own b =>
   have:i1=[(.own,b,u)]:=h1
   subst this
   obtain⟨d,ds',F1,F2,e1,e2,⟨x,hd,k1,k2⟩,hi'⟩:=hi
   have ih:=lQ ms (i+1) vs' i2 ds' F2 ios h2 hi' hv' hw.2 hlk ho
   exact⟨nD i _ ms (by omega),x,ds',F1,F2,by rw[e1,hd],e2,by rw[hv0];exact k1,by rw[hv0];exact k2,by rw[hv0];exact hw.1,ih⟩
  | io b =>
   have:i1=[(.io,b,u)]:=h1
   subst this
   obtain⟨d,ds',F1,F2,e1,e2,⟨x,hd,k1,k2⟩,hi'⟩:=hi
   have ho':∃ ios',cR (i+1) ms ios'=true:=by
    cases ios with
    | nil=>simp[cR]at ho
    | cons q ios =>
     obtain⟨s,k⟩:=q
     cases k with
     | box=>simp[cR]at ho
     | reg=>simp only[cR,aD]at ho;exact⟨ios,ho.2⟩
     | orig j=>simp only[cR,aD]at ho;exact⟨ios,ho.2⟩
   obtain⟨ios',ho'⟩:=ho'
   have ih:=lQ ms (i+1) vs' i2 ds' F2 ios' h2 hi' hv' hw.2 hlk ho'
   exact⟨nD i _ ms (by omega),x,ds',F1,F2,by rw[e1,hd],e2,by rw[hv0];exact k1,by rw[hv0];exact k2,by rw[hv0];exact hw.1,ih⟩
  | ptr b o =>
   have:i1=[(.ptr o,b,u)]:=h1
   subst this
   obtain⟨d,ds',F1,F2,e1,e2,⟨x,hd,blk,c,E0,F',k1,k2,k3,k4⟩,hi'⟩:=hi
   have ho':∃ ios',cR (i+1) ms ios'=true:=by
    cases ios with
    | nil=>simp[cR]at ho
    | cons q ios =>
     obtain⟨s,k⟩:=q
     cases k with
     | box=>simp only[cR,aD]at ho;exact⟨ios,ho.2⟩
     | reg=>simp[cR]at ho
     | orig j=>simp[cR]at ho
   obtain⟨ios',ho'⟩:=ho'
   have ih:=lQ ms (i+1) vs' i2 ds' F2 ios' h2 hi' hv' hw.2 hlk ho'
   refine⟨by simp[dz],by rw[hv0];exact hw.1.symm,nD i _ ms (by omega),x,ds',F1,F2,by rw[e1,hd],e2,?_,fun j hj=>(by cases hj),ih⟩
   unfold dw
   rw[bw rfl,hw.1]
   exact⟨blk,c,E0,F',k1,k2,k3,k4⟩
  | clo f bs =>
   obtain⟨ws,hu,hl,e5⟩:=h1
   subst e5
   simp only[cR,aD]at ho
   have hb16:bs.length≤16:=aG ho.1
   have hwd:∀ k,k<bs.length→V (16*i+(0+k))=ws.toList.getD k undef:=by
    intro k hk
    rw[Nat.zero_add,hw.1 ws hu k (by omega)]
    simp
   have ho':∃ ios',cR (i+1) ms ios'=true:=by
    cases hc:jG i 0 bs ios with
    | none=>rw[hc]at ho;cases ho.2
    | some rest=>rw[hc]at ho;exact⟨rest,ho.2⟩
   obtain⟨ios',ho'⟩:=ho'
   refine⟨fun id hid=>?_,⟨ws,by rw[hv0];exact hu,H9 i bs 0 ws.toList hl hwd⟩,?_⟩
   ·rw[Hs,Lc i bs 0 id hid];rfl
   ·have hdr:(eX bs ws.toList++i2).drop bs.length=i2:=by rw[← qR bs ws.toList hl,List.drop_left]
    have hw2:ia V (i+1) ms vs' ((eX bs ws.toList++i2).drop bs.length):=hw.2
    have hlk2:dR w ms ((eX bs ws.toList++i2).drop bs.length):=hlk
    rw[hdr]at hw2 hlk2
    exact Ht i ms bs 0 ws.toList i2 ds F hl (by omega) hwd hi fun ds' F' hi'=>lQ ms (i+1) vs' i2 ds' F' ios' h2 hi' hv' hw2 hlk2 ho'
  | ref b o b' o' =>
   obtain⟨u',e5⟩:=h1
   subst e5
   obtain⟨d,ds',F1,F2,e1,e2,⟨x,hd,blk,c,E0,F',k1,k2,k3,k4⟩,hi'⟩:=hi
   obtain⟨d2,ds2,F3,F4,e3,e4,⟨x2,hd2,blk2,c2,E2,F2',n1,n2,n3,n4⟩,hi2⟩:=hi'
   have hwa:V (16*i)=u:=hw.1.1
   have hwb:V (16*i+1)=u':=hw.1.2 _ _ _ rfl
   obtain⟨⟨a,c0,its',e6,hlk1⟩,hlk2⟩:=hlk
   cases e6
   have ho':∃ ios',cR (i+1) ms ios'=true:=by
    cases ios with
    | nil=>simp[cR]at ho
    | cons q ios =>
     obtain⟨s,k⟩:=q
     cases k with
     | box =>
      cases ios with
      | nil=>simp[cR]at ho
      | cons q2 ios =>
       obtain⟨s2,k2⟩:=q2
       cases k2 with
       | box=>simp only[cR,aD]at ho;exact⟨ios,ho.2.2⟩
       | reg=>simp[cR]at ho
       | orig j=>simp[cR]at ho
     | reg=>simp[cR]at ho
     | orig j=>simp[cR]at ho
   obtain⟨ios',ho'⟩:=ho'
   have ih:=lQ ms (i+1) vs' i2 ds2 F4 ios' h2 hi2 hv' hw.2 hlk2 ho'
   have hno:Nat.beq (16*i+1) (16*i)=false:=by
    cases hb:Nat.beq (16*i+1) (16*i) with
    | false=>rfl
    | true=>have:=cn hb;omega
   refine⟨by simp[dz],by rw[hv0];exact hwa.symm,⟨by simp[dz],by simp[dz]⟩,by rw[hwa,hwb];exact hlk1,by simp only[cI,hno,Bool.false_or];exact nD i _ ms (by omega),x,ds',F1,F2,by rw[e1,hd],e2,?_,fun j hj=>(by cases hj),nD i _ ms (by omega),x2,ds2,F3,F4,by rw[e3,hd2],e4,?_,fun j hj=>(by cases hj),ih⟩
   ·unfold dw
    rw[bw rfl,hwa]
    exact⟨blk,c,E0,F',k1,k2,k3,k4⟩
   ·unfold dw
    rw[bw rfl,hwb]
    exact⟨blk2,c2,E2,F2',n1,n2,n3,n4⟩
theorem Gu{V:Nat→Value}(i:Nat)(its:List (PM×BT×Value)):∀ (bs:List BT) (j:Nat) (ws:List Value) (ios rest:List (Nat×IoK)),ws.length=bs.length→(∀ k,k<bs.length→V (16*i+(j+k))=ws.getD k undef)→jG i j bs ios=some rest→jp V rest its→jp V ios (eX bs ws++its)
 | [],j,[],ios,rest,_,_,h,hf=>by cases h;exact hf
 | b::bs,j,u::ws,ios,rest,hl,hw,h,hf=>by
  cases ios with
  | nil=>simp[jG]at h
  | cons q ios =>
   obtain⟨s,k⟩:=q
   cases k with
   | box =>
    simp only[jG]at h
    split at h
    ·rename_i hs
     have:=cn hs
     subst this
     have h0:=hw 0 (by simp)
     simp at h0
     exact⟨16*i+j,ios,rfl,h0.symm,Gu i its bs (j+1) ws ios rest (by simpa using hl) (fun k hk=>by
      have:=hw (k+1) (by simpa using hk)
      rw[show j+1+k=j+(k+1) by omega,this];simp) h hf⟩
    ·cases h
   | reg=>simp[jG]at h
   | orig _=>simp[jG]at h
 | [],j,_::_,_,_,hl,_,_,_=>by simp at hl
 | _::_,j,[],_,_,hl,_,_,_=>by simp at hl
theorem kz:∀ (ms:List Mode) (i:Nat) (vs:List Value) (vits:List (PM×BT×Value)) (ds:List (DV G.T)) (F:List Nat) (ios:List (Nat×IoK)),eO ms vs vits→fe (G:=G) S w vits ds F→ia V i ms vs vits→cR i ms ios=true→jp V ios vits
 | [],i,vs,vits,ds,F,ios,hf,hi,hw,ho=>by
  obtain⟨rfl,rfl⟩:=hf
  show ios=[]
  simpa [cR]using ho
 | m::ms,i,vs,vits,ds,F,ios,hf,hi,hw,ho=>by
  obtain⟨u,vs',i1,i2,rfl,rfl,h1,h2⟩:=hf
  cases m with
  | val b =>
   have:i1=[(.val,b,u)]:=h1
   subst this
   obtain⟨d,ds',F1,F2,e1,e2,_,hi'⟩:=hi
   exact kz ms (i+1) vs' i2 ds' F2 ios h2 hi' hw.2 ho
  | own b =>
   have:i1=[(.own,b,u)]:=h1
   subst this
   obtain⟨d,ds',F1,F2,e1,e2,_,hi'⟩:=hi
   exact kz ms (i+1) vs' i2 ds' F2 ios h2 hi' hw.2 ho
  | io b =>
   have:i1=[(.io,b,u)]:=h1
   subst this
   obtain⟨d,ds',F1,F2,e1,e2,⟨x,hd,k1,k2⟩,hi'⟩:=hi
   cases ios with
   | nil=>simp[cR]at ho
   | cons q ios =>
    obtain⟨s,k⟩:=q
    cases k with
    | box=>simp[cR]at ho
    | reg =>
     simp only[cR,aD]at ho
     have:=cn ho.1
     subst this
     exact⟨16*i,.reg,ios,rfl,k2,.inl ⟨rfl,hw.1.symm⟩,kz ms (i+1) vs' i2 ds' F2 ios h2 hi' hw.2 ho.2⟩
    | orig j =>
     simp only[cR,aD]at ho
     have:=cn ho.1
     subst this
     exact⟨s,.orig j,ios,rfl,k2,.inr ⟨j,rfl,hw.1.symm⟩,kz ms (j+1) vs' i2 ds' F2 ios h2 hi' hw.2 ho.2⟩
  | ptr b o =>
   have:i1=[(.ptr o,b,u)]:=h1
   subst this
   obtain⟨d,ds',F1,F2,e1,e2,_,hi'⟩:=hi
   cases ios with
   | nil=>simp[cR]at ho
   | cons q ios =>
    obtain⟨s,k⟩:=q
    cases k with
    | box =>
     simp only[cR,aD]at ho
     have:=cn ho.1
     subst this
     exact⟨16*i,ios,rfl,hw.1.symm,kz ms (i+1) vs' i2 ds' F2 ios h2 hi' hw.2 ho.2⟩
    | reg=>simp[cR]at ho
    | orig j=>simp[cR]at ho
  | clo f bs =>
   obtain⟨ws,hu,hl,e5⟩:=h1
   subst e5
   simp only[cR,aD]at ho
   have hb16:bs.length≤16:=aG ho.1
   have hwd:∀ k,k<bs.length→V (16*i+(0+k))=ws.toList.getD k undef:=by
    intro k hk
    rw[Nat.zero_add,hw.1 ws hu k (by omega)]
    simp
   cases hc:jG i 0 bs ios with
   | none=>rw[hc]at ho;cases ho.2
   | some rest =>
    rw[hc]at ho
    have skip:∀ (bs:List BT) (ws:List Value) (ds:List (DV G.T)) (F:List Nat),ws.length=bs.length→fe (G:=G) S w (eX bs ws++i2) ds F→∃ ds' F',fe (G:=G) S w i2 ds' F':=by
     intro bs
     induction bs with
     | nil =>
      intro ws ds F hl hi
      cases ws with
      | nil=>exact⟨ds,F,hi⟩
      | cons _ _=>simp at hl
     | cons b bs ih =>
      intro ws ds F hl hi
      cases ws with
      | nil=>simp at hl
      | cons u ws =>
       obtain⟨d,ds',F1,F2,_,_,_,hi'⟩:=hi
       exact ih ws ds' F2 (by simpa using hl) hi'
    obtain⟨ds',F',hi'⟩:=skip bs ws.toList ds F hl hi
    have hdr:(eX bs ws.toList++i2).drop bs.length=i2:=by rw[← qR bs ws.toList hl,List.drop_left]
    have hw2:ia V (i+1) ms vs' ((eX bs ws.toList++i2).drop bs.length):=hw.2
    rw[hdr]at hw2
    exact Gu i i2 bs 0 ws.toList ios rest hl hwd hc (kz ms (i+1) vs' i2 ds' F' rest h2 hi' hw2 ho.2)
  | ref b o b' o' =>
   obtain⟨u',e5⟩:=h1
   subst e5
   obtain⟨d,ds',F1,F2,e1,e2,_,hi'⟩:=hi
   obtain⟨d2,ds2,F3,F4,e3,e4,_,hi2⟩:=hi'
   have hwa:V (16*i)=u:=hw.1.1
   have hwb:V (16*i+1)=u':=hw.1.2 _ _ _ rfl
   cases ios with
   | nil=>simp[cR]at ho
   | cons q ios =>
    obtain⟨s,k⟩:=q
    cases k with
    | box =>
     cases ios with
     | nil=>simp[cR]at ho
     | cons q2 ios =>
      obtain⟨s2,k2⟩:=q2
      cases k2 with
      | box =>
       simp only[cR,aD]at ho
       have q1:=cn ho.1
       have q2:=cn ho.2.1
       subst q1
       subst q2
       exact⟨16*i,_,rfl,hwa.symm,16*i+1,ios,rfl,hwb.symm,kz ms (i+1) vs' i2 ds2 F4 ios h2 hi2 hw.2 ho.2.2⟩
      | reg=>simp[cR]at ho
      | orig j=>simp[cR]at ho
    | reg=>simp[cR]at ho
    | orig j=>simp[cR]at ho
theorem xl{E:Env}{Fa:cr E.Z}{C:Ctx}{σ:St E.G}{a:Act}{w:World}{S:Nat→Prop}{F:Nat→List Nat}{V:Nat→Value}(h:Ok C σ a w S F V):∀ (ms:List Mode) (i:Nat) (vs:List Value) (its:List (PM×BT×Value)) (σ1:St E.G),eO ms vs its→ia C.V0 i ms vs its→i+ms.length≤C.np →
  (mg (E:=E) i ms).run Fa σ=some ((),σ1)→σ1=σ∧dR w ms its
 | [],i,vs,its,σ1,hf,hw,hn,hm=>by
  obtain⟨_,e⟩:=aB (F:=Fa) hm
  exact⟨e,trivial⟩
 | m::ms,i,vs,its,σ1,hf,hw,hn,hm=>by
  obtain⟨u,vs',i1,i2,rfl,rfl,h1,h2⟩:=hf
  simp only[aW]at hn
  have hl1:i1.length=m.inp.length:=by
   cases m with
   | clo f bs=>obtain⟨ws,_,hl,e⟩:=h1;rw[e];exact qR bs ws.toList hl
   | ref b o b' o'=>obtain⟨u',e⟩:=h1;rw[e];rfl
   | val b=>rw[show i1=_ from h1];rfl
   | own b=>rw[show i1=_ from h1];rfl
   | io b=>rw[show i1=_ from h1];rfl
   | ptr b o=>rw[show i1=_ from h1];rfl
  have hw2:ia C.V0 (i+1) ms vs' i2:=by
   have:=hw.2
   rw[← hl1,List.drop_left]at this
   exact this
  by_cases hr:∃ b o b' o',m = .ref b o b' o'
  ·obtain⟨b,o,b',o',rfl⟩:=hr
   obtain⟨u',e5⟩:=h1
   subst e5
   have hwa:C.V0 (16*i)=u:=hw.1.1
   have hwb:C.V0 (16*i+1)=u':=hw.1.2 _ _ _ rfl
   unfold mg at hm
   rw[M.run_getP]at hm
   split at hm
   ·rename_i s0 gs s' g' hq
    rw[M.run_getS,M.run_getS]at hm
    obtain⟨hc,hm2⟩:=aC hm
    simp only[aD]at hc
    obtain⟨c1,c2,c3,c4,c5⟩:=hc
    have c1':=cn c1
    have c2':=cn c2
    subst c1'
    subst c2'
    obtain⟨e,k⟩:=xl h ms (i+1) vs' i2 σ1 h2 hw2 (by omega) hm2
    have hwd:=h.pins (wT (16*i))
    rw[hq]at hwd
    have hcell:=(hwd.2.2 (cn c3) (aG c5)).2
    unfold fd at hcell
    rw[bw c4,h.V0 (16*i) (by omega),h.V0 (16*i+1) (by omega),hwa,hwb]at hcell
    exact⟨e,⟨_,_,_,rfl,hcell⟩,k⟩
   ·exact aA (F:=Fa) hm
  ·have e0:mg (E:=E) i (m::ms)=mg (i+1) ms:=by cases m <;> first | rfl | exact absurd ⟨_,_,_,_,rfl⟩ hr
   rw[e0]at hm
   obtain⟨e,k⟩:=xl h ms (i+1) vs' i2 σ1 h2 hw2 (by omega) hm
   exact⟨e,Iv hl1 (fun b o b' o' e=>absurd ⟨b,o,b',o',e⟩ hr) k⟩
theorem Mh:∀ (bs:List BT) (ws:List Value) (its:List (PM×BT×Value)),ws.length=bs.length→gI (eX bs ws++its)=bs++gI its
 | [],[],its,_=>rfl
 | b::bs,u::ws,its,h=>by
  show(if(PM.ptr b).back=true then b::gI (eX bs ws++its)else gI (eX bs ws++its))=b::(bs++gI its)
  rw[bw (show(PM.ptr b).back=true from rfl),Mh bs ws its (by simpa using h)]
 | [],_::_,its,h=>by simp at h
 | _::_,[],its,h=>by simp at h
theorem Ha:∀ (ms:List Mode) (vs:List Value) (vits:List (PM×BT×Value)),eO ms vs vits→gI vits=nN ms
 | [],vs,vits,h=>by rw[h.2];rfl
 | m::ms,vs,vits,⟨v,vs',i1,i2,h1,h2,h3,h4⟩=>by
  have ih:=Ha ms vs' i2 h4
  rw[h2]
  show _=m.out++nN ms
  rw[← ih]
  cases m with
  | clo f bs =>
   obtain⟨ws,_,hl,e⟩:=h3
   rw[e];exact Mh bs ws.toList i2 hl
  | val b=>rw[show i1=_ from h3];rfl
  | own b=>rw[show i1=_ from h3];rfl
  | io b=>rw[show i1=_ from h3];rfl
  | ptr b o=>rw[show i1=_ from h3];rfl
  | ref b o b' o'=>obtain⟨u,e⟩:=h3;rw[e];rfl
end
section
variable {T:Tab} {Fa:cr T.Z} {e:Nat} {C:Ctx} {P:Program}
structure At (T:Tab) (P:Program) (e:Nat) (C:Ctx) (vits:List (PM×BT×Value)):Prop where
 P_eq:C.P=P
 np:C.np=(T.ent e).modes.length
 nt:C.nt=(T.ent e).nt
 fit:jp C.V0 (T.ent e).ios vits
 tys:gI vits=nN (T.ent e).modes
 words:∃ vs,eO (T.ent e).modes vs vits∧ia C.V0 0 (T.ent e).modes vs vits
 gl:Laid P T.tabs C.S0 C.w0
 gs:∀ b,C.S0 b→b∉C.F0∧b<C.w0.heap.size
theorem Vh(hE:EntOK T P e)(hT:∀ t ft,T.ty t=some ft→dh T.G P T.ty t ft=true){vits:List (PM×BT×Value)}(hA:At T P e C vits){y:Bs T.G.T (eR (T.ent e))}{σ:St T.G}{a:Act}{w:World}(hM:df C σ a w)(hm:T.retC Fa e σ=some y) :
  ∃ f v,P.funcs[(T.ent e).fn]? = some f∧a.defers=[]∧(results f a.tmps).run C.P w = .ok v w∧mZ (G:=T.G) (T.ent e).modes (T.ent e).res.length vits (cL (eR (T.ent e)) y) C.S0 C.F0 C.w0 v w:=by
 obtain⟨S,F,V,h⟩:=hM
 obtain⟨f,hf,hbody,hres,hnt,hname⟩:=hE.fn
 unfold Tab.retC at hm
 obtain⟨_,σ0,h0,hm⟩:=lO (E:=T.E) hm
 obtain⟨vs0,hfl,hwd⟩:=hA.words
 obtain⟨e0,hlk⟩:=xl (E:=T.E) h (T.ent e).modes 0 vs0 vits σ0 hfl hwd (by rw[hA.np,Nat.zero_add];exact aK _) h0
 rw[e0]at hm
 obtain⟨ds,σ1,h1,h2⟩:=lO (E:=T.E) hm
 obtain⟨ds',σ2,h3,h4⟩:=lO (E:=T.E) h2
 obtain⟨F1,Fr,vs,k1,k2,k3,k4,k5,k6⟩:=xZ (E:=T.E) (C:=C) (by rw[hA.P_eq];exact hT) _ _ σ σ1 F [] ds h Loose.nil h1
 obtain⟨F2,Fb,m1,m2,m3⟩:=Ih (E:=T.E) (fn:=(T.ent e).f) (by rw[hA.np];rfl) _ σ1 σ2 F1 (Fr++[]) ds' k1 k2 h3
 rw[aL]at m2
 have hco:=Gx (E:=T.E) _ _ y h4
 have hlen:ds.length=(T.ent e).res.length:=k5.trans hE.res
 obtain⟨c1,c2⟩:=CoL.split (E:=T.E) (bs:=(T.ent e).res) (bs':=nN (T.ent e).modes) hco hlen
 have hn:=aF.1 m2.nd
 obtain⟨R,D1,r1,r2,r3⟩:=Jt (E:=T.E) _ ds _ vs Fr c1 k6 k3 hn.2.1
 obtain⟨B',D2,b1,b2,b3⟩:=pP (E:=T.E) (np:=C.np) m1.V0 vits (T.ent e).ios ds' _ Fb (by rw[hA.tys];exact c2) m3 hA.fit hn.1
 refine⟨f,qh vs,hf,h.defers,Vf (by rw[hres];exact k4),fun z=>S z∨z∈D1∨z∈D2,vs,R,B',rfl,r3 _ fun z hz=>hz.imp (fun q=>q) .inl,b3 _ fun z hz=>hz.imp (fun q=>q) .inr,?_,fun z hz=>?_,fun z hz=>.inl (h.inS z hz),fun z hz=>?_,h.keep,h.grow,h.os,h.tape,h.output,hlk⟩
 ·exact aF.2 ⟨hn.2.1.sublist r1,hn.1.sublist b1,fun x hx z hz e=>hn.2.2 z (b1.subset hz) x (r1.subset hx) e.symm⟩
 ·have hz':z∈Fb++Fr:=by
   rcases aE.1 hz with hz | hz
   ·exact ay _ (r1.subset hz)
   ·exact ax _ (b1.subset hz)
  refine⟨fun hS=>?_,m2.bnd z hz',m2.fromF z hz'⟩
  rcases hS with hS | hS | hS
  ·exact m2.notS z hz' hS
  ·rcases aE.1 hz with hz | hz
   ·exact(r2 z hS).2 hz
   ·exact hn.2.2 z (b1.subset hz) z (r2 z hS).1 rfl
  ·rcases aE.1 hz with hz | hz
   ·exact hn.2.2 z (b2 z hS).1 z (r1.subset hz) rfl
   ·exact(b2 z hS).2 hz
 ·rcases hz with hz | hz | hz
  ·exact⟨h.bndS z hz,h.fromS z hz⟩
  ·exact⟨m2.bnd z (ay _ (r2 z hz).1),.inr (m2.fromF z (ay _ (r2 z hz).1))⟩
  ·exact⟨m2.bnd z (ax _ (b2 z hz).1),.inr (m2.fromF z (ax _ (b2 z hz).1))⟩
def vf(T:Tab)(P:Program)(Fa:cr T.Z):Prop:=∀ (κ:Nat),EntOK T P (T.key κ).ent→∀ (x:Bs T.G.T (T.Z.inp κ)) (y:Bs T.G.T (T.Z.out κ)),Fa κ x=some y→∀ (C:Ctx) (vits:List (PM×BT×Value)),At T P (T.key κ).ent C vits →
 ∀ c k,dF (T.ent (T.key κ).ent).code (T.key κ).dirs []=some (c,k)→∀ a w,df C (cV (T.key κ).forms x) a w →
  Runs P (T.ent (T.key κ).ent).fn (mZ (G:=T.G) (T.ent (T.key κ).ent).modes (T.ent (T.key κ).ent).res.length vits (cL (eR (T.ent (T.key κ).ent)) y) C.S0 C.F0 C.w0) (mU c k) a w
theorem Qd{ms:List Mode}{vs:List Value}{vits:List (PM×BT×Value)}{w:World}{S0:Nat→Prop}{F0:List Nat}{a:Act}{nt:Nat}{ios:List (Nat×IoK)}(hf:eO ms vs vits)(hlk:dR w ms vits)(hvs:vs.length=ms.length)(hn:F0.Nodup)(hF:∀ b∈F0,¬ S0 b∧b<w.heap.size)(hS:∀ b,S0 b→b<w.heap.size)
  (ha:∀ k,k<vs.length→a.tmps.getD k undef=vs.getD k undef) (hd:a.defers=[]) (hsz:a.tmps.size=nt) (ho:cR 0 ms ios=true) :
  ∀ (fs:List Form),fs=dE 0 ms→∀ x:Bs T.G.T (cE fs),fe (G:=T.G) S0 w vits (cL (cE fs) x) F0→df (G:=T.G) ⟨P,w,F0,S0,hU 0 ms vs vits,ms.length,nt⟩ (cV fs x) a w:=by
 intro fs hfs
 subst hfs
 intro x hi
 have hw:ia (hU 0 ms vs vits) 0 ms vs vits:=EY ms 0 vs vits fun s _=>rfl
 have hH:=lQ (G:=T.G) (V:=hU 0 ms vs vits) (V0:=hU 0 ms vs vits) (v:=fun t=>a.tmps.getD t undef) ms 0 vs vits _ F0 ios hf hi (fun k hk=>by rw[Nat.zero_add];exact ha k hk) hw hlk ho
 exact Y8 (C:=⟨P,w,F0,S0,hU 0 ms vs vits,ms.length,nt⟩) hH hn (fun b hb=>⟨(hF b hb).1,(hF b hb).2,.inl hb⟩) hS (fun b hb=>.inl hb) (fun b hb=>hb) (fun _ _ _=>rfl) (aK _) rfl rfl rfl hd hsz (fun _ _=>rfl)
theorem Hc:∀ (ms:List Mode) (vs:List Value) (vits:List (PM×BT×Value)),eO ms vs vits→vs.length=ms.length
 | [],vs,vits,h=>by rw[h.1];rfl
 | m::ms,vs,vits,⟨v,vs',i1,i2,h1,h2,h3,h4⟩=>by rw[h1,aW,Hc ms vs' i2 h4,aW]
theorem Hm(hT:TabOK T P)(hX:∀ κ x y,(T.ent (T.key κ).ent).ex=true→Fa κ x=some y→T.ext κ x=some y)(hK:vf T P Fa):qY T.E P Fa:=by
 intro f cs k ms nres hent
 have hcall:T.call f cs=some k∧(T.ent (T.key k).ent).modes=ms∧(T.ent (T.key k).ent).res.length=nres:=by
  have h:(match T.call f cs with
   | some k=>some (k,(T.ent (T.key k).ent).modes,(T.ent (T.key k).ent).res.length)
   | none=>none)=some (k,ms,nres):=hent
  cases hc:T.call f cs with
  | none=>rw[hc]at h;cases h
  | some k'=>rw[hc]at h;cases h;exact⟨rfl,rfl,rfl⟩
 obtain⟨hc,rfl,rfl⟩:=hcall
 rcases hT.call f cs k hc with ⟨hE,hfn,hdirs,hforms⟩ | hXt
 rotate_left
 ·exact⟨hXt.inp,fun x y hy=>hXt.does x y (hX k x y hXt.ex hy)⟩
 obtain⟨fn,hf,hbody,hres,hnt,hname⟩:=hE.fn
 refine⟨by show cE (T.key k).forms=_;rw[hforms,md],fun x y hy w S0 F0 vs vits hflat hlk hitems hnd hF hS hG=>?_⟩
 have hvl:=Hc _ vs vits hflat
 left
 rw[hfn]at hf
 have hcf:(callFunc f vs.toArray).run P w = .ok (.enter f vs.toArray) w:=by
  have hname' : ¬ fn.name = "runtime.NumGoroutine" := by simpa using hname
  simp[callFunc,hf,hname',hbody]
 refine⟨hcf,fun cs=>?_⟩
 let a0:Act:={ tmps:=vs.toArray++Array.replicate (fn.ntmps-vs.toArray.size) undef,defers:=[] }
 have hsz:a0.tmps.size=(T.ent (T.key k).ent).nt:=by
  have:=hE.np
  show(vs.toArray++Array.replicate (fn.ntmps-vs.toArray.size) undef).size=_
  rw[Array.size_append,Array.size_replicate,List.size_toArray,hnt,hvl];omega
 have hgetv:∀ j,j<vs.length→a0.tmps.getD j undef=vs.getD j undef:=by
  intro j hj
  show(vs.toArray++Array.replicate (fn.ntmps-vs.toArray.size) undef).getD j undef=_
  simp[Array.getElem?_append,hj]
 have hM:=Qd (T:=T) (P:=P) (ios:=(T.ent (T.key k).ent).ios) hflat hlk hvl hnd hF hS hgetv rfl hsz hE.ios (T.key k).forms hforms x hitems
 have hw:ia (hU 0 (T.ent (T.key k).ent).modes vs vits) 0 (T.ent (T.key k).ent).modes vs vits:=EY _ 0 vs vits fun s _=>rfl
 have hA:At T P (T.key k).ent ⟨P,w,F0,S0,hU 0 (T.ent (T.key k).ent).modes vs vits,(T.ent (T.key k).ent).modes.length,(T.ent (T.key k).ent).nt⟩ vits :=
  ⟨rfl,rfl,rfl,kz (G:=T.G) _ 0 vs vits _ F0 _ hflat hitems hw hE.ios,Ha _ vs vits hflat,⟨vs,hflat,hw⟩,hG,fun b hb=>⟨fun hb'=>(hF b hb').1 hb,hS b hb⟩⟩
 have hwalk:dF (T.ent (T.key k).ent).code (T.key k).dirs []=some ((T.ent (T.key k).ent).code,[]):=by rw[hdirs];cases (T.ent (T.key k).ent).code <;> rfl
 have hruns:=sS (hK k hE x y hy _ vits hA _ _ hwalk a0 w hM)
 let b:Frame:={ (default:Frame)with fn:=f,kind:=.normal }
 have henter:Frame.enter P f vs.toArray .normal=b.at a0 [.code (T.ent (T.key k).ent).code]:=by
  simp[Frame.enter,Frame.at,hf,hbody,b,a0]
 obtain⟨v,w',fr,h1,h2,h3,h4⟩:=hruns b cs hfn.symm rfl
 refine⟨.returned v,w',fr,⟨v,rfl,h1⟩,?_,by rw[h3,hfn],h4⟩
 rw[henter]
 exact h2
theorem Jy(T:Tab):∀ n κ x y,(T.ent (T.key κ).ent).ex=true→T.run n κ x=some y→T.ext κ x=some y
 | 0,κ,x,y,he,h=>b7 h
 | n+1,κ,x,y,he,h=>by simp only[Tab.run,he]at h;exact h
theorem Ij(hT:TabOK T P)(hD:∀ (Fa:cr T.Z) (e:Nat) (C:Ctx) (y:Bs T.G.T (eR (T.ent e))) (R:Value→World→Prop),Within T Fa e C y R→qX T Fa e C y R):∀ n,vf T P (T.run n)
 | 0=>fun κ hE x y hy=>b7 hy
 | n+1=>fun κ hE x y hy C vits hA c k hw a w hM=>by
  have ih:=Ij hT hD n
  have hF:=Hm hT (Jy T n) ih
  have hW:Within T (T.run n) (T.key κ).ent C y (mZ (G:=T.G) (T.ent (T.key κ).ent).modes (T.ent (T.key κ).ent).res.length vits (cL (eR (T.ent (T.key κ).ent)) y) C.S0 C.F0 C.w0):=by
   refine⟨⟨by rw[hA.np];rfl,by rw[hA.nt];rfl,by rw[hA.P_eq];exact hT.ty,by rw[hA.P_eq];exact hT.ifc,by rw[hA.P_eq];exact hT.fnt,by rw[hA.P_eq];exact hF,by rw[hA.P_eq];exact hA.gl,hA.gs⟩,hE.joins,fun κ' he x' y' hy' hc c' k' hw' a' w' hM'=>?_,fun σ a w hM hm=>?_⟩
   ·rw[hA.P_eq]
    have key:∀ (e:Nat) (he:(T.key κ').ent=e) (y2:Bs T.G.T (eR (T.ent e))),EntOK T P e→At T P e C vits→cast (by show Bs T.G.T (eR (T.ent (T.key κ').ent))=_;rw[he]) y'=y2→dF (T.ent e).code (T.key κ').dirs []=some (c',k') →
      Runs P (T.ent e).fn (mZ (G:=T.G) (T.ent e).modes (T.ent e).res.length vits (cL (eR (T.ent e)) y2) C.S0 C.F0 C.w0) (mU c' k') a' w':=by
     intro e he y2 hE2 hA2 hc2 hw2
     subst he
     have hc3:y'=y2:=hc2
     subst hc3
     exact ih κ' hE2 x' y' hy' C vits hA2 c' k' hw2 a' w' hM'
    exact key _ he y hE hA hc hw'
   ·obtain⟨f,v,r1,r2,r3,r4⟩:=Vh (Fa:=T.run n) hE hT.ty hA hM hm
    rw[← hA.P_eq]at r1
    exact⟨fun k=>Vv r1 r2 r3 r4,Vs r1 r2 r3 r4⟩
  have hDr:=hD _ _ _ _ _ hW
  have hrun:il T (T.run n) (T.key κ).ent (T.ent (T.key κ).ent).code (T.key κ).dirs (num []) [] (T.retC (T.run n) (T.key κ).ent) (cV (T.key κ).forms x)=some y:=by
   simp only[Tab.run,hE.ex]at hy;exact hy
  have:=lN hW hDr (T.key κ).dirs (T.ent (T.key κ).ent).code [] [] [] (T.retC (T.run n) (T.key κ).ent) (by cases (T.ent (T.key κ).ent).code <;> rfl) (fun σ a w hM hm=>(hW.ret σ a w hM hm).2) (fun i K hi=>by cases hi) c k hw _ a w hM hrun
  rw[hA.P_eq]at this
  exact this
end
end
section
section
variable {Z:Sig} {F:cr Z} {α:Type}
def qH(l:List Acc)(t:Nat):Prop:=∃ x∈l,x.slot=false∧x.at_=t
def qI(l:List Acc)(s:Nat):Prop:=∃ x∈l,x.slot=true∧x.at_=s
def lv(l:List Acc)(t:Nat):Prop:=∃ x∈l,x.slot=false∧x.at_=t∧x.wr=true
def lx(l:List Acc)(s:Nat):Prop:=∃ x∈l,x.slot=true∧x.at_=s∧x.wr=true
def M.runL(F:cr Z)(m:M Z α)(σ:St Z.G)(l:List Acc):Option (α×St Z.G×List Acc):=m.goL F σ l fun a σ l=>some (a,σ,l)
theorem M.goL_eq{ρ:Type}:∀ (m:M Z α) (σ:St Z.G) (l:List Acc) (K:α→St Z.G→List Acc→Option ρ),m.goL F σ l K=(m.runL F σ l).bind fun x=>K x.1 x.2.1 x.2.2
 | .ret a,σ,l,K=>rfl
 | .fail,σ,l,K=>rfl
 | .getP t k,σ,l,K=>M.goL_eq (k (σ.pin t)) σ _ K
 | .setP t p k,σ,l,K=>M.goL_eq k _ _ K
 | .getS s k,σ,l,K=>M.goL_eq (k (σ.slot s)) σ _ K
 | .setS s x k,σ,l,K=>M.goL_eq k _ _ K
 | .br b k,σ,l,K=>by
  cases b
  ·exact M.goL_eq (k false) σ l K
  ·exact M.goL_eq (k true) σ l K
 | .chk c h k,σ,l,K=>by
  show(@ite _ c h (k.goL F σ l K) none)=(@ite _ c h (k.goL F σ l fun a σ l=>some (a,σ,l)) none).bind _
  by_cases hc:c
  ·rw[bw hc,bw hc];exact M.goL_eq k σ l K
  ·rw[bz hc,bz hc];rfl
 | .call f x k,σ,l,K=>by
  show((F f x).bind fun y=>(k y).goL F σ l K)=(((F f x).bind fun y=>(k y).goL F σ l fun a σ l=>some (a,σ,l))).bind _
  cases F f x with
  | none=>rfl
  | some y=>exact M.goL_eq (k y) σ l K
theorem M.run_of_L:∀ (m:M Z α) (σ σ':St Z.G) (l l':List Acc) (a:α),m.runL F σ l=some (a,σ',l')→m.run F σ=some (a,σ')
 | .ret a,σ,σ',l,l',b,h=>by cases h;rfl
 | .fail,σ,σ',l,l',b,h=>by cases h
 | .getP t k,σ,σ',l,l',b,h=>M.run_of_L (k (σ.pin t)) σ σ' _ l' b h
 | .setP t p k,σ,σ',l,l',b,h=>M.run_of_L k _ σ' _ l' b h
 | .getS s k,σ,σ',l,l',b,h=>M.run_of_L (k (σ.slot s)) σ σ' _ l' b h
 | .setS s x k,σ,σ',l,l',b,h=>M.run_of_L k _ σ' _ l' b h
 | .br c k,σ,σ',l,l',b,h=>by
  cases c
  ·exact M.run_of_L (k false) σ σ' l l' b h
  ·exact M.run_of_L (k true) σ σ' l l' b h
 | .chk c hc k,σ,σ',l,l',b,h=>by
  have h':(@ite _ c hc (k.runL F σ l) none)=some (b,σ',l'):=h
  show(@ite _ c hc (k.run F σ) none)=_
  by_cases h0:c
  ·rw[bw h0]at h' ⊢;exact M.run_of_L k σ σ' l l' b h'
  ·rw[bz h0]at h';cases h'
 | .call f x k,σ,σ',l,l',b,h=>by
  have h':((F f x).bind fun y=>(k y).runL F σ l)=some (b,σ',l'):=h
  show((F f x).bind fun y=>(k y).run F σ)=_
  cases hf:F f x with
  | none=>rw[hf]at h';cases h'
  | some y=>rw[hf]at h';exact M.run_of_L (k y) σ σ' l l' b h'
theorem M.local:∀ (m:M Z α) (σ σ':St Z.G) (l l':List Acc) (a:α),m.runL F σ l=some (a,σ',l')→∃ l1,l'=l1++l∧(∀ t,¬ lv l1 t→σ'.pin t=σ.pin t)∧(∀ s,¬ lx l1 s→σ'.slot s=σ.slot s) ∧
  ∀ (τ:St Z.G) (lτ:List Acc),(∀ t,qH l1 t→τ.pin t=σ.pin t)→(∀ s,qI l1 s→τ.slot s=σ.slot s)→∃ τ',m.runL F τ lτ=some (a,τ',l1++lτ)∧(∀ t,lv l1 t→τ'.pin t=σ'.pin t)∧(∀ s,lx l1 s→τ'.slot s=σ'.slot s)
 | .ret a,σ,σ',l,l',b,h=>by
  cases h
  exact⟨[],rfl,fun _ _=>rfl,fun _ _=>rfl,fun τ lτ _ _=>⟨τ,rfl,fun t ⟨x,hx,_⟩=>(by cases hx),fun s ⟨x,hx,_⟩=>(by cases hx)⟩⟩
 | .fail,σ,σ',l,l',b,h=>by cases h
 | .getP t k,σ,σ',l,l',b,h=>by
  obtain⟨l1,e,h1,h2,h3⟩:=M.local (k (σ.pin t)) σ σ' _ l' b h
  refine⟨l1++[⟨false,t,false⟩],by rw[e];simp,fun u hu=>h1 u fun⟨x,hx,k1⟩=>hu ⟨x,ax _ hx,k1⟩,fun u hu=>h2 u fun⟨x,hx,k1⟩=>hu ⟨x,ax _ hx,k1⟩,fun τ lτ hp hs=>?_⟩
  have e0:τ.pin t=σ.pin t:=hp t ⟨_,ay _ (aN.2 rfl),rfl,rfl⟩
  obtain⟨τ',g1,g2,g3⟩:=h3 τ (⟨false,t,false⟩::lτ) (fun u ⟨x,hx,k1⟩=>hp u ⟨x,ax _ hx,k1⟩) (fun u ⟨x,hx,k1⟩=>hs u ⟨x,ax _ hx,k1⟩)
  refine⟨τ',?_,fun u ⟨x,hx,k1,k2,k3⟩=>?_,fun u ⟨x,hx,k1,k2,k3⟩=>?_⟩
  ·show(k (τ.pin t)).runL F τ _=_
   rw[e0,List.append_assoc];exact g1
  ·rcases aE.1 hx with hx | hx
   ·exact g2 u ⟨x,hx,k1,k2,k3⟩
   ·rw[aN.1 hx]at k3;cases k3
  ·rcases aE.1 hx with hx | hx
   ·exact g3 u ⟨x,hx,k1,k2,k3⟩
   ·rw[aN.1 hx]at k3;cases k3
 | .getS s k,σ,σ',l,l',b,h=>by
  obtain⟨l1,e,h1,h2,h3⟩:=M.local (k (σ.slot s)) σ σ' _ l' b h
  refine⟨l1++[⟨true,s,false⟩],by rw[e];simp,fun u hu=>h1 u fun⟨x,hx,k1⟩=>hu ⟨x,ax _ hx,k1⟩,fun u hu=>h2 u fun⟨x,hx,k1⟩=>hu ⟨x,ax _ hx,k1⟩,fun τ lτ hp hs=>?_⟩
  have e0:τ.slot s=σ.slot s:=hs s ⟨_,ay _ (aN.2 rfl),rfl,rfl⟩
  obtain⟨τ',g1,g2,g3⟩:=h3 τ (⟨true,s,false⟩::lτ) (fun u ⟨x,hx,k1⟩=>hp u ⟨x,ax _ hx,k1⟩) (fun u ⟨x,hx,k1⟩=>hs u ⟨x,ax _ hx,k1⟩)
  refine⟨τ',?_,fun u ⟨x,hx,k1,k2,k3⟩=>?_,fun u ⟨x,hx,k1,k2,k3⟩=>?_⟩
  ·show(k (τ.slot s)).runL F τ _=_
   rw[e0,List.append_assoc];exact g1
  ·rcases aE.1 hx with hx | hx
   ·exact g2 u ⟨x,hx,k1,k2,k3⟩
   ·rw[aN.1 hx]at k3;cases k3
  ·rcases aE.1 hx with hx | hx
   ·exact g3 u ⟨x,hx,k1,k2,k3⟩
   ·rw[aN.1 hx]at k3;cases k3
 | .setP t p k,σ,σ',l,l',b,h=>by
  obtain⟨l1,e,h1,h2,h3⟩:=M.local k (σ.setP t p) σ' _ l' b h
  have eσ:∀ u,u≠t→(σ.setP t p).pin u=σ.pin u:=fun u hu=>by rw[St.setP_pin,cj _ _ hu]
  refine⟨l1++[⟨false,t,true⟩],by rw[e];simp,fun u hu=>?_,fun u hu=>?_,fun τ lτ hp hs=>?_⟩
  ·have hne:u≠t:=fun e=>hu ⟨_,ay _ (aN.2 rfl),rfl,e.symm,rfl⟩
   rw[h1 u fun⟨x,hx,k1⟩=>hu ⟨x,ax _ hx,k1⟩,eσ u hne]
  ·exact h2 u fun⟨x,hx,k1⟩=>hu ⟨x,ax _ hx,k1⟩
  ·have agree:∀ u,qH l1 u→(τ.setP t p).pin u=(σ.setP t p).pin u:=by
    intro u ⟨x,hx,k1⟩
    rw[St.setP_pin,St.setP_pin]
    by_cases e:u=t
    ·subst e;rw[ck,ck]
    ·rw[cj _ _ e,cj _ _ e];exact hp u ⟨x,ax _ hx,k1⟩
   obtain⟨τ',g1,g2,g3⟩:=h3 (τ.setP t p) (⟨false,t,true⟩::lτ) agree (fun u ⟨x,hx,k1⟩=>hs u ⟨x,ax _ hx,k1⟩)
   refine⟨τ',?_,fun u ⟨x,hx,k1,k2,k3⟩=>?_,fun u ⟨x,hx,k1,k2,k3⟩=>?_⟩
   ·show k.runL F (τ.setP t p) _=_
    rw[List.append_assoc];exact g1
   ·by_cases hw:lv l1 u
    ·exact g2 u hw
    ·rcases aE.1 hx with hx | hx
     ·exact absurd ⟨x,hx,k1,k2,k3⟩ hw
     ·have eu:u=t:=by rw[← k2,aN.1 hx]
      subst eu
      obtain⟨l2,e2,m1,_,_⟩:=M.local k (τ.setP u p) τ' _ _ b g1
      have:l2=l1:=by
       have:=List.append_cancel_right (e2.symm.trans (by rfl))
       exact this
      rw[m1 u (by rw[this];exact hw),h1 u hw,St.setP_pin,St.setP_pin,ck,ck]
   ·rcases aE.1 hx with hx | hx
    ·exact g3 u ⟨x,hx,k1,k2,k3⟩
    ·rw[aN.1 hx]at k1;cases k1
 | .setS s y k,σ,σ',l,l',b,h=>by
  obtain⟨l1,e,h1,h2,h3⟩:=M.local k (σ.setS s y) σ' _ l' b h
  have eσ:∀ u,u≠s→(σ.setS s y).slot u=σ.slot u:=fun u hu=>by rw[St.setS_slot,cj _ _ hu]
  refine⟨l1++[⟨true,s,true⟩],by rw[e];simp,fun u hu=>?_,fun u hu=>?_,fun τ lτ hp hs=>?_⟩
  ·exact h1 u fun⟨x,hx,k1⟩=>hu ⟨x,ax _ hx,k1⟩
  ·have hne:u≠s:=fun e=>hu ⟨_,ay _ (aN.2 rfl),rfl,e.symm,rfl⟩
   rw[h2 u fun⟨x,hx,k1⟩=>hu ⟨x,ax _ hx,k1⟩,eσ u hne]
  ·have agree:∀ u,qI l1 u→(τ.setS s y).slot u=(σ.setS s y).slot u:=by
    intro u ⟨x,hx,k1⟩
    rw[St.setS_slot,St.setS_slot]
    by_cases e:u=s
    ·subst e;rw[ck,ck]
    ·rw[cj _ _ e,cj _ _ e];exact hs u ⟨x,ax _ hx,k1⟩
   obtain⟨τ',g1,g2,g3⟩:=h3 (τ.setS s y) (⟨true,s,true⟩::lτ) (fun u ⟨x,hx,k1⟩=>hp u ⟨x,ax _ hx,k1⟩) agree
   refine⟨τ',?_,fun u ⟨x,hx,k1,k2,k3⟩=>?_,fun u ⟨x,hx,k1,k2,k3⟩=>?_⟩
   ·show k.runL F (τ.setS s y) _=_
    rw[List.append_assoc];exact g1
   ·rcases aE.1 hx with hx | hx
    ·exact g2 u ⟨x,hx,k1,k2,k3⟩
    ·rw[aN.1 hx]at k1;cases k1
   ·by_cases hw:lx l1 u
    ·exact g3 u hw
    ·rcases aE.1 hx with hx | hx
     ·exact absurd ⟨x,hx,k1,k2,k3⟩ hw
     ·have eu:u=s:=by rw[← k2,aN.1 hx]
      subst eu
      obtain⟨l2,e2,_,m1,_⟩:=M.local k (τ.setS u y) τ' _ _ b g1
      have:l2=l1:=by
       have:=List.append_cancel_right (e2.symm.trans (by rfl))
       exact this
      rw[m1 u (by rw[this];exact hw),h2 u hw,St.setS_slot,St.setS_slot,ck,ck]
 | .br c k,σ,σ',l,l',b,h=>by
  cases c
  ·exact M.local (k false) σ σ' l l' b h
  ·exact M.local (k true) σ σ' l l' b h
 | .chk c hc k,σ,σ',l,l',b,h=>by
  have h':(@ite _ c hc (k.runL F σ l) none)=some (b,σ',l'):=h
  by_cases h0:c
  ·rw[bw h0]at h'
   obtain⟨l1,e,h1,h2,h3⟩:=M.local k σ σ' l l' b h'
   refine⟨l1,e,h1,h2,fun τ lτ hp hs=>?_⟩
   obtain⟨τ',g1,g2,g3⟩:=h3 τ lτ hp hs
   refine⟨τ',?_,g2,g3⟩
   show(@ite _ c hc (k.runL F τ lτ) none)=_
   rw[bw h0];exact g1
  ·rw[bz h0]at h';cases h'
 | .call f x k,σ,σ',l,l',b,h=>by
  have h':((F f x).bind fun y=>(k y).runL F σ l)=some (b,σ',l'):=h
  cases hf:F f x with
  | none=>rw[hf]at h';cases h'
  | some y =>
   rw[hf]at h'
   obtain⟨l1,e,h1,h2,h3⟩:=M.local (k y) σ σ' l l' b h'
   refine⟨l1,e,h1,h2,fun τ lτ hp hs=>?_⟩
   obtain⟨τ',g1,g2,g3⟩:=h3 τ lτ hp hs
   refine⟨τ',?_,g2,g3⟩
   show((F f x).bind fun y=>(k y).runL F τ lτ)=_
   rw[hf];exact g1
end
end
section
section
variable {Z:Sig} {F:cr Z}
theorem St.ext'{G:Gam}{σ τ:St G}(h1:∀ t,σ.pin t=τ.pin t)(h2:∀ s,σ.slot s=τ.slot s):σ=τ:=by
 have e1:σ.pin=τ.pin:=funext h1
 have e2:σ.slot=τ.slot:=funext h2
 cases σ;cases τ
 simp only at e1 e2
 rw[e1,e2]
theorem IP{l m:List Acc}(h:gJ l m=false):(∀ x∈l,∀ y∈m,x.slot=y.slot→x.at_=y.at_→x.wr=false∧y.wr=false):=by
 intro x hx y hy e1 e2
 unfold gJ at h
 rw[List.any_eq_false]at h
 have h1:=h x hx
 have h2:(m.any fun b=>x.clash b)=false:=by simpa using h1
 rw[List.any_eq_false]at h2
 have h3:=h2 y hy
 unfold Acc.clash at h3
 rw[e1,e2]at h3
 simp at h3
 exact h3
theorem Nj{l m:List Acc}(h:gJ l m=false):gJ m l=false:=by
 unfold gJ
 rw[List.any_eq_false]
 intro y hy
 have:(l.any fun b=>y.clash b)=false:=by
  rw[List.any_eq_false]
  intro x hx
  unfold Acc.clash
  intro hc
  simp only[aD,beq_iff_eq,aY]at hc
  obtain⟨⟨c1,c2⟩,c3⟩:=hc
  obtain⟨k1,k2⟩:=IP h x hx y hy c1.symm (cn c2).symm
  rw[k1,k2]at c3
  simp at c3
 simpa using this
theorem NH{α β:Type}{m1:M Z α}{m2:M Z β}{σ σ1 σ2:St Z.G}{l1 l2:List Acc}{a:α}{b:β}(h1:m1.runL F σ []=some (a,σ1,l1))(h2:m2.runL F σ1 []=some (b,σ2,l2))(hc:gJ l1 l2=false) :
  ∃ τ,m2.runL F σ []=some (b,τ,l2)∧m1.runL F τ []=some (a,σ2,l1):=by
 have nc:=IP hc
 obtain⟨k1,e1,p1,p2,p3⟩:=M.local m1 σ σ1 [] l1 a h1
 obtain⟨k2,e2,q1,q2,q3⟩:=M.local m2 σ1 σ2 [] l2 b h2
 rw[aL]at e1 e2
 subst e1;subst e2
 have wP1:∀ t,qH l2 t→¬ lv l1 t:=fun t ⟨y,hy,y1,y2⟩ ⟨x,hx,x1,x2,x3⟩=>by
  have:=(nc x hx y hy (x1.trans y1.symm) (x2.trans y2.symm)).1
  rw[this]at x3;cases x3
 have wS1:∀ t,qI l2 t→¬ lx l1 t:=fun t ⟨y,hy,y1,y2⟩ ⟨x,hx,x1,x2,x3⟩=>by
  have:=(nc x hx y hy (x1.trans y1.symm) (x2.trans y2.symm)).1
  rw[this]at x3;cases x3
 have wP2:∀ t,qH l1 t→¬ lv l2 t:=fun t ⟨x,hx,x1,x2⟩ ⟨y,hy,y1,y2,y3⟩=>by
  have:=(nc x hx y hy (x1.trans y1.symm) (x2.trans y2.symm)).2
  rw[this]at y3;cases y3
 have wS2:∀ t,qI l1 t→¬ lx l2 t:=fun t ⟨x,hx,x1,x2⟩ ⟨y,hy,y1,y2,y3⟩=>by
  have:=(nc x hx y hy (x1.trans y1.symm) (x2.trans y2.symm)).2
  rw[this]at y3;cases y3
 have tP:∀ {l:List Acc} {t},lv l t→qH l t:=fun⟨x,hx,x1,x2,_⟩=>⟨x,hx,x1,x2⟩
 have tS:∀ {l:List Acc} {t},lx l t→qI l t:=fun⟨x,hx,x1,x2,_⟩=>⟨x,hx,x1,x2⟩
 obtain⟨τ,g1,g2,g3⟩:=q3 σ [] (fun t ht=>(p1 t (wP1 t ht)).symm) (fun s hs=>(p2 s (wS1 s hs)).symm)
 rw[aL]at g1
 obtain⟨k3,e3,r1,r2,_⟩:=M.local m2 σ τ [] l2 b g1
 rw[aL]at e3
 subst e3
 obtain⟨τ2,u1,u2,u3⟩:=p3 τ [] (fun t ht=>r1 t (wP2 t ht)) (fun s hs=>r2 s (wS2 s hs))
 rw[aL]at u1
 obtain⟨k4,e4,s1,s2,_⟩:=M.local m1 τ τ2 [] l1 a u1
 rw[aL]at e4
 subst e4
 refine⟨τ,g1,?_⟩
 have:τ2=σ2:=by
  refine St.ext' (fun t=>?_) (fun s=>?_)
  ·by_cases hw:lv l1 t
   ·rw[u2 t hw,q1 t (wP2 t (tP hw))]
   ·rw[s1 t hw]
    by_cases hw2:lv l2 t
    ·exact g2 t hw2
    ·rw[r1 t hw2,q1 t hw2,p1 t hw]
  ·by_cases hw:lx l1 s
   ·rw[u3 s hw,q2 s (wS2 s (tS hw))]
   ·rw[s2 s hw]
    by_cases hw2:lx l2 s
    ·exact g3 s hw2
    ·rw[r2 s hw2,q2 s hw2,p2 s hw]
 rw[← this];exact u1
def Seq(F:cr Z)(prog:Nat→M Z Unit):List (Nat×List Acc)→St Z.G→St Z.G→Prop
 | [],σ,σ'=>σ=σ'
 | (i,l)::r,σ,σ'=>∃ σ1,(prog i).runL F σ []=some ((),σ1,l)∧Seq F prog r σ1 σ'
theorem Seq.snoc{prog:Nat→M Z Unit}:∀ {r:List (Nat×List Acc)} {σ σ1 σ2:St Z.G} {i:Nat} {l:List Acc},Seq F prog r σ σ1→(prog i).runL F σ1 []=some ((),σ2,l)→Seq F prog (r++[(i,l)]) σ σ2
 | [],σ,σ1,σ2,i,l,h,h2=>by
  have:σ=σ1:=h
  subst this
  exact⟨σ2,h2,rfl⟩
 | (j,m)::r,σ,σ1,σ2,i,l,⟨σ0,h0,h⟩,h2=>⟨σ0,h0,Seq.snoc h h2⟩
theorem Seq.front{prog:Nat→M Z Unit}{i:Nat}{l:List Acc}{post:List (Nat×List Acc)}:∀ {pre:List (Nat×List Acc)} {σ σ':St Z.G},Seq F prog (pre++(i,l)::post) σ σ'→(∀ q∈pre,gJ q.2 l=false)→∃ σ1,(prog i).runL F σ []=some ((),σ1,l)∧Seq F prog (pre++post) σ1 σ'
 | [],σ,σ',h,_=>h
 | (j,m)::pre,σ,σ',⟨σ0,h0,h⟩,hc=>by
  obtain⟨σ1,h1,h2⟩:=Seq.front h fun q hq=>hc q (aI _ hq)
  obtain⟨τ,g1,g2⟩:=NH h0 h1 (hc (j,m) (aH ..))
  exact⟨τ,g1,σ1,g2,h2⟩
end
def iM(acc:Array Nat)(o:Oper):Nat:=o.after.foldl (fun s e=>if Region.binds .any e then s ||| 2 ^ e.on ||| acc.getD e.on 0 else s) 0
theorem MQ(acc:Array Nat)(o:Oper)(j:Nat)(h:(iM acc o).testBit j=true):∃ e∈o.after,Region.binds .any e=true∧(j=e.on∨(acc.getD e.on 0).testBit j=true):=by
 unfold iM at h
 rw[← Array.foldl_toList]at h
 have key:∀ (l:List Edge) (s:Nat),(l.foldl (fun s e=>if Region.binds .any e then s ||| 2 ^ e.on ||| acc.getD e.on 0 else s) s).testBit j=true→s.testBit j=true∨∃ e∈l,Region.binds .any e=true∧(j=e.on∨(acc.getD e.on 0).testBit j=true):=by
  intro l
  induction l with
  | nil=>intro s h;exact .inl h
  | cons e l ih =>
   intro s h
   rcases ih _ h with h1 | ⟨e',he',h1⟩
   ·simp only at h1
    split at h1
    ·rename_i hb
     rw[Nat.testBit_or,Nat.testBit_or,aY,aY,Nat.testBit_two_pow,decide_eq_true_eq]at h1
     rcases h1 with (h1 | h1) | h1
     ·exact .inl h1
     ·exact .inr ⟨e,aH ..,hb,.inl h1.symm⟩
     ·exact .inr ⟨e,aH ..,hb,.inr h1⟩
    ·exact .inl h1
   ·exact .inr ⟨e',aI _ he',h1⟩
 rcases key o.after.toList 0 h with h1 | ⟨e,he,h1⟩
 ·simp at h1
 ·exact⟨e,Array.mem_toList_iff.1 he,h1⟩
theorem FZ:∀ (os:List Oper) (acc:Array Nat),(os.foldl (fun acc o=>acc.push (iM acc o)) acc).size=acc.size+os.length∧(∀ k,k<acc.size→(os.foldl (fun acc o=>acc.push (iM acc o)) acc).getD k 0=acc.getD k 0) ∧
  ∀ (k:Nat) (o:Oper),os[k]? = some o→∃ acc':Array Nat,acc'.size=acc.size+k∧(∀ k',k'<acc'.size→(os.foldl (fun acc o=>acc.push (iM acc o)) acc).getD k' 0=acc'.getD k' 0)∧(os.foldl (fun acc o=>acc.push (iM acc o)) acc).getD (acc.size+k) 0=iM acc' o
 | [],acc=>⟨rfl,fun _ _=>rfl,fun k o h=>by simp at h⟩
 | o::os,acc=>by
  obtain⟨h1,h2,h3⟩:=FZ os (acc.push (iM acc o))
  have hpush:∀ k,k<acc.size→(acc.push (iM acc o)).getD k 0=acc.getD k 0:=by
   intro k hk
   simp[Array.getElem?_push,Nat.ne_of_lt hk]
  refine⟨by rw[List.foldl_cons,h1,Array.size_push,aW];omega,fun k hk=>?_,fun k o' hk=>?_⟩
  ·rw[List.foldl_cons,h2 k (by rw[Array.size_push];omega),hpush k hk]
  ·cases k with
   | zero =>
    obtain rfl:o=o':=by simpa using hk
    refine⟨acc,rfl,fun k' hk'=>?_,?_⟩
    ·rw[List.foldl_cons,h2 k' (by rw[Array.size_push];omega),hpush k' hk']
    ·rw[List.foldl_cons,Nat.add_zero,h2 acc.size (by rw[Array.size_push];omega)]
     simp
   | succ k =>
    obtain⟨acc',e1,e2,e3⟩:=h3 k o' (by simpa using hk)
    rw[Array.size_push]at e1 e3
    refine⟨acc',by omega,fun k' hk'=>?_,?_⟩
    ·rw[List.foldl_cons];exact e2 k' hk'
    ·rw[List.foldl_cons,show acc.size+(k+1)=acc.size+1+k by omega];exact e3
theorem MS(ops:Array Oper):Region.before ops=ops.toList.foldl (fun acc o=>acc.push (iM acc o)) #[]:=by
 unfold Region.before
 rw[← Array.foldl_toList]
 rfl
theorem MR{ops:Array Oper}{i j:Nat}{o:Oper}(ho:ops[i]? = some o)(h:((Region.before ops).getD i 0).testBit j=true):∃ e∈o.after,Region.binds .any e=true∧(j=e.on∨(e.on<i∧((Region.before ops).getD e.on 0).testBit j=true)):=by
 rw[MS]at h ⊢
 obtain⟨_,_,h3⟩:=FZ ops.toList #[]
 obtain⟨acc',e1,e2,e3⟩:=h3 i o (by rw[Array.getElem?_toList];exact ho)
 simp only[List.size_toArray,List.length_nil,Nat.zero_add]at e1 e3
 rw[e3]at h
 obtain⟨e,he,hb,hj⟩:=MQ acc' o j h
 refine⟨e,he,hb,?_⟩
 rcases hj with hj | hj
 ·exact .inl hj
 ·by_cases hlt:e.on<acc'.size
  ·exact .inr ⟨by omega,by rw[e2 e.on hlt];exact hj⟩
  ·have:acc'.getD e.on 0=0:=by simp[Array.getElem?_eq_none (Nat.le_of_not_lt hlt)]
   rw[this]at hj
   simp at hj
theorem vo{m:Region.Mode}{e:Edge}(h:Region.binds .any e=true):Region.binds m e=true:=by
 unfold Region.binds at h ⊢
 cases hg:e.ground <;> rw[hg]at h <;> first | rfl | cases h
theorem Lz:∀ (os:List Oper) (i k:Nat) (o:Oper),uz i os=true→os[k]? = some o→∀ e∈o.after,Region.binds .text e=true→e.on<i+k
 | [],i,k,o,h,hk=>by simp at hk
 | p::os,i,k,o,h,hk=>by
  simp only[uz,aD,List.all_eq_true]at h
  cases k with
  | zero =>
   obtain rfl:p=o:=by simpa using hk
   intro e he hb
   have:=h.1 e (Array.mem_toList_iff.2 he)
   rw[hb]at this
   rw[Bool.not_true,Bool.false_or]at this
   exact aG this
  | succ k =>
   intro e he hb
   have:=Lz os (i+1) k o h.2 (by simpa using hk) e he hb
   omega
theorem Hn{n:Nat}{rk:List Nat}:∀ (os:List Oper) (i k:Nat) (o:Oper),rJ n rk i os=true→os[k]? = some o→∀ e∈o.after,Region.binds .gc e=true→e.on<n∧rk.idxOf e.on<rk.idxOf (i+k)
 | [],i,k,o,h,hk=>by simp at hk
 | p::os,i,k,o,h,hk=>by
  simp only[rJ,aD,List.all_eq_true]at h
  cases k with
  | zero =>
   obtain rfl:p=o:=by simpa using hk
   intro e he hb
   have:=h.1 e (Array.mem_toList_iff.2 he)
   rw[hb]at this
   simp only[Bool.not_true,Bool.false_or,aD]at this
   exact⟨aG this.1,aG this.2⟩
  | succ k =>
   intro e he hb
   have:=Hn os (i+1) k o h.2 (by simpa using hk) e he hb
   rwa [show i+1+k=i+(k+1) by omega]at this
theorem N9{ops:Array Oper}(h:jv 0 ops.toList=true)(m:Region.Mode):∃ rk:Nat→Nat,∀ i o,ops[i]? = some o→∀ e∈o.after,Region.binds m e=true→rk e.on<rk i∧e.on<ops.size:=by
 simp only[jv,aD]at h
 obtain⟨h1,h2⟩:=h
 have text:∀ i o,ops[i]? = some o→∀ e∈o.after,Region.binds .text e=true→e.on<i∧e.on<ops.size:=fun i o ho e he hb=>by
  have k1:=Lz ops.toList 0 i o h1 (by rw[Array.getElem?_toList];exact ho) e he hb
  have k2:=(Array.getElem?_eq_some_iff.1 ho).1
  omega
 cases m with
 | any=>exact⟨id,fun i o ho e he hb=>text i o ho e he (vo hb)⟩
 | text=>exact⟨id,fun i o ho e he hb=>text i o ho e he hb⟩
 | gc =>
  cases hd:Region.departs ops.toList.toArray with
  | true =>
   rw[hd]at h2
   refine⟨fun i=>(Region.linearise .gc ops.toList.toArray 0).idxOf i,fun i o ho e he hb=>?_⟩
   have:=Hn ops.toList 0 i o h2 (by rw[Array.getElem?_toList];exact ho) e he hb
   rw[Nat.zero_add,show ops.toList.length=ops.size from aJ]at this
   exact⟨this.2,this.1⟩
  | false =>
   refine⟨id,fun i o ho e he hb=>text i o ho e he (vo ?_)⟩
   rw[Array.toArray_toList]at hd
   unfold Region.departs at hd
   rw[Array.any_eq_false]at hd
   obtain⟨hi,ho'⟩:=Array.getElem?_eq_some_iff.1 ho
   have k:=hd i hi
   rw[ho']at k
   rw[aX,Array.any_eq_false]at k
   obtain⟨j,hj,rfl⟩:=Array.mem_iff_getElem.1 he
   have:=k j hj
   simpa using this
theorem Iq{rk:Nat→Nat}:∀ (l:List Nat),l≠[]→∃ i∈l,∀ j∈l,rk i≤rk j
 | [],h=>absurd rfl h
 | [i],_=>⟨i,by simp,fun j hj=>by rw[aN.1 hj];exact aK _⟩
 | i::i'::l,_=>by
  obtain⟨k,hk,hm⟩:=Iq (rk:=rk) (i'::l) (by simp)
  by_cases h:rk i≤rk k
  ·exact⟨i,by simp,fun j hj=>by rcases aO.1 hj with rfl | hj;exact aK _;exact Nat.le_trans h (hm j hj)⟩
  ·exact⟨k,aI _ hk,fun j hj=>by rcases aO.1 hj with rfl | hj;omega;exact hm j hj⟩
def mkS:List (List Acc)→List (Nat×List Acc)
 | []=>[]
 | l::L=>mkS L++[(L.length,l)]
theorem IG:∀ (L:List (List Acc)),(mkS L).map (·.1)=List.range L.length
 | []=>rfl
 | l::L=>by rw[mkS,List.map_append,IG L,aW,List.range_succ];rfl
theorem I2(before:Array Nat)(l:List Acc)(j:Nat):∀ (L:List (List Acc)),ordered.orderedTo before l j L=true→∀ q∈mkS L,gJ l q.2=false∨(before.getD j 0).testBit q.1=true
 | [],h,q,hq=>by cases hq
 | m::L,h,q,hq=>by
  simp only[ordered.orderedTo,aD,aY,Bool.not_eq_true']at h
  rcases aE.1 hq with hq | hq
  ·exact I2 before l j L h.2 q hq
  ·rw[aN.1 hq];exact h.1
theorem I3(before:Array Nat):∀ (L:List (List Acc)),ordered before L=true→(mkS L).Pairwise fun q r=>gJ r.2 q.2=false∨(before.getD r.1 0).testBit q.1=true
 | [],_=>List.Pairwise.nil
 | l::L,h=>by
  simp only[ordered,aD]at h
  refine List.pairwise_append.2 ⟨I3 before L h.2,List.pairwise_singleton ..,fun q hq r hr=>?_⟩
  rw[aN.1 hr]
  exact I2 before l L.length L h.1 q hq
section
variable {E:Env} {Fa:cr E.Z} {C:Ctx} {σ σ1:St E.G} {a:Act} {w:World} {fn:Fn}
noncomputable def kS(fn:Fn)(ops:Array Oper)(i:Nat):ME E Unit :=
 match ops[i]? with
 | some o=>mQ (E:=E) fn ops o
 | none=>.fail
theorem FU{p:bX E}{b:Bool}(h:asG (E:=E) p=some b):p=vB b:=by
 unfold asG at h
 split at h
 ·cases h;rfl
 ·cases h
theorem K5{G:Gam}(σ:St G)(t:Nat):σ.setP t (σ.pin t)=σ:=St.ext' (fun u=>by
 rw[St.setP_pin]
 by_cases e:u=t
 ·subst e;rw[ck]
 ·rw[cj _ _ e]) (fun s=>rfl)
theorem Up(ops:Array Oper){ρ:Type}(o:Oper)(os:List Oper)(σ:St E.G)(L:List (List Acc))(K:St E.G→List (List Acc)→Option ρ):ej (E:=E) fn Fa ops (o::os) σ L K=(mQ (E:=E) fn ops o).goL Fa σ [] fun _ σ l=>ej fn Fa ops os σ (l::L) K:=by
 have h:ej (E:=E) fn Fa ops (o::os) σ L K=(match o.guard with
   | none=>(opM (E:=E) fn o).goL Fa σ [] fun _ σ l=>ej fn Fa ops os σ (l::L) K
   | some (j,want)=>match (ops[j]?).bind (·.dst) with
    | some t=>match asG (E:=E) (σ.pin t) with
     | some b=>if b=true
      then(bif want then opM (E:=E) fn o else dC fn o.dst .und).goL Fa (σ.setP t (vB true)) [⟨false,t,false⟩] fun _ σ l=>ej fn Fa ops os σ (l::L) K
      else(bif want then dC (E:=E) fn o.dst .und else opM fn o).goL Fa (σ.setP t (vB false)) [⟨false,t,false⟩] fun _ σ l=>ej fn Fa ops os σ (l::L) K
     | none=>bif fC (E:=E) (σ.pin t) then(dC (E:=E) fn o.dst .und).goL Fa σ [⟨false,t,false⟩] fun _ σ l=>ej fn Fa ops os σ (l::L) K else none
    | none=>none):=rfl
 rw[h]
 unfold mQ
 cases hg:o.guard with
 | none=>rfl
 | some jw =>
  obtain⟨j,want⟩:=jw
  simp only
  cases ht:(ops[j]?).bind (·.dst) with
  | none=>rfl
  | some t =>
   simp only
   cases hb:asG (E:=E) (σ.pin t) with
   | none =>
    show(bif fC (E:=E) (σ.pin t) then(dC (E:=E) fn o.dst .und).goL Fa σ [⟨false,t,false⟩] fun _ σ l=>ej fn Fa ops os σ (l::L) K else none)=((match asG (E:=E) (σ.pin t) with
     | some b=>.br b fun b=>bif b==want then opM (E:=E) fn o else dC fn o.dst .und
     | none=>bif fC (E:=E) (σ.pin t)then dC (E:=E) fn o.dst .und else .fail:ME E Unit)).goL Fa σ [⟨false,t,false⟩] _
    rw[hb];cases fC (E:=E) (σ.pin t) <;> rfl
   | some b =>
    have hp:=FU hb
    show _=((match asG (E:=E) (σ.pin t) with
     | some b=>.br b fun b=>bif b==want then opM (E:=E) fn o else dC fn o.dst .und
     | none=>bif fC (E:=E) (σ.pin t)then dC (E:=E) fn o.dst .und else .fail:ME E Unit)).goL Fa σ [⟨false,t,false⟩] _
    rw[hb]
    have hs:σ.setP t (vB b)=σ:=by rw[← hp];exact K5 σ t
    cases b
    ·rw[hs];cases want <;> rfl
    ·rw[hs];cases want <;> rfl
theorem Hq{ops:Array Oper}{ρ:Type}{K:St E.G→List (List Acc)→Option ρ}{y:ρ}{σ0:St E.G}:∀ (os:List Oper) (σ:St E.G) (L:List (List Acc)),(∀ k,os[k]? = ops[L.length+k]?)→Seq Fa (kS (E:=E) fn ops) (mkS L) σ0 σ→ej (E:=E) fn Fa ops os σ L K=some y →
  ∃ Ln σn,Seq Fa (kS (E:=E) fn ops) (mkS Ln) σ0 σn∧K σn Ln=some y∧Ln.length=L.length+os.length
 | [],σ,L,hi,hs,h=>⟨L,σ,hs,h,rfl⟩
 | o::os,σ,L,hi,hs,h=>by
  rw[Up,M.goL_eq]at h
  cases hr:(mQ (E:=E) fn ops o).runL Fa σ [] with
  | none=>rw[hr]at h;exact b7 h
  | some z =>
   obtain⟨u,σ1,l⟩:=z
   rw[hr]at h
   have ho:ops[L.length]? = some o:=by have:=hi 0;simpa using this.symm
   have hstep:(kS (E:=E) fn ops L.length).runL Fa σ []=some ((),σ1,l):=by unfold kS;rw[ho];exact hr
   obtain⟨Ln,σn,g1,g2,g3⟩:=Hq os σ1 (l::L) (fun k=>by
    have:=hi (k+1)
    rw[List.getElem?_cons_succ]at this
    rw[this,aW]
    congr 1;omega) (hs.snoc hstep) h
   exact⟨Ln,σn,g1,g2,by rw[g3];simp;omega⟩
theorem UX(hB:Base E Fa C fn){ops:Array Oper}{i:Nat}{l:List Acc}(hM:df C σ a w)(hr:(kS (E:=E) fn ops i).runL Fa σ []=some ((),σ1,l)){next:Act→World→Prop}{Q:Exit→Act→World→Prop}(hn:∀ a w,df C σ1 a w→next a w):wpOp C.P ops Q i next a w:=by
 have hrun:=M.run_of_L _ _ _ _ _ _ hr
 unfold kS at hrun
 cases ho:ops[i]? with
 | none=>rw[ho]at hrun;exact aA (F:=Fa) hrun
 | some o =>
  rw[ho]at hrun
  simp only at hrun
  have hgo:(mQ (E:=E) fn ops o).go Fa σ (fun _ σ'=>some σ')=some σ1:=by rw[M.go_eq,hrun];rfl
  have:=EP hB (Q:=Q) ho (K:=fun σ'=>some σ') (y:=σ1) (next:=next) (fun σ' a w hM' e=>by cases e;exact hn a w hM') hM (by
   have e:(mQ (E:=E) fn ops o).go Fa σ (fun _ σ'=>some σ')=(match o.guard with
    | none=>(opM (E:=E) fn o).go Fa σ fun _ σ=>some σ
    | some (j,want)=>match (ops[j]?).bind (·.dst) with
     | some t=>match asG (E:=E) (σ.pin t) with
      | some b=>if b=true
       then(bif want then opM (E:=E) fn o else dC fn o.dst .und).go Fa (σ.setP t (vB true)) fun _ σ=>some σ
       else(bif want then dC (E:=E) fn o.dst .und else opM fn o).go Fa (σ.setP t (vB false)) fun _ σ=>some σ
      | none=>bif fC (E:=E) (σ.pin t) then(dC (E:=E) fn o.dst .und).go Fa σ fun _ σ=>some σ else none
     | none=>none):=by
    unfold mQ
    cases hg:o.guard with
    | none=>rfl
    | some jw =>
     obtain⟨j,want⟩:=jw
     simp only
     cases ht:(ops[j]?).bind (·.dst) with
     | none=>rfl
     | some t =>
      simp only
      show((match asG (E:=E) (σ.pin t) with
       | some b=>.br b fun b=>bif b==want then opM (E:=E) fn o else dC fn o.dst .und
       | none=>bif fC (E:=E) (σ.pin t)then dC (E:=E) fn o.dst .und else .fail:ME E Unit)).go Fa σ _=_
      cases hb:asG (E:=E) (σ.pin t) with
      | none=>cases fC (E:=E) (σ.pin t) <;> rfl
      | some b =>
       have hp:=FU hb
       have hs:σ.setP t (vB b)=σ:=by rw[← hp];exact K5 σ t
       cases b
       ·simp only[Bool.false_eq_true,if_false];rw[hs];cases want <;> rfl
       ·simp only[if_true];rw[hs];cases want <;> rfl
   exact e.symm.trans hgo)
  unfold wpOp
  rw[ho]
  simp only
  split
  ·rename_i hw;rw[bw hw]at this;exact .inl this
  ·rename_i hw;rw[bz hw]at this;exact this
def Ml(ops:Array Oper)(listed:Array Bool):Prop:=∀ k,listed.getD k false=true→∀ j,((Region.before ops).getD k 0).testBit j=true→listed.getD j false=true
theorem MI(hB:Base E Fa C fn)(m:Region.Mode)(rk:Nat→Nat){ops:Array Oper}{Q:Exit→Act→World→Prop}{σn:St E.G}(hQ:∀ a w,df C σn a w→Q .normal a w)(hE:∀ i o,ops[i]? = some o→∀ e∈o.after,Region.binds m e=true→rk e.on<rk i∧e.on<ops.size) :
  ∀ (fuel:Nat) (rem:List (Nat×List Acc)) (listed:Array Bool) (σ:St E.G) (a:Act) (w:World),rem.length=fuel→df C σ a w→Seq Fa (kS (E:=E) fn ops) rem σ σn →
   rem.Pairwise (fun q r=>gJ r.2 q.2=false∨((Region.before ops).getD r.1 0).testBit q.1=true)→(rem.map (·.1)).Pairwise (· < ·)→listed.size=ops.size→(∀ j,listed.getD j true=false↔j∈rem.map (·.1))→(∀ j∈rem.map (·.1),j<ops.size)→Ml ops listed→wpAny C.P m ops Q fuel listed a w:=by
 intro fuel
 induction fuel with
 | zero =>
  intro rem listed σ a w hl hM hS hP hLt hsz hun hlt hC
  have:rem=[]:=List.eq_nil_of_length_eq_zero hl
  subst this
  have e:σ=σn:=hS
  subst e
  refine⟨?_,hQ a w hM⟩
  apply List.eq_nil_iff_forall_not_mem.2
  intro j hj
  have:=(hun j).1 (mem_ready.1 hj).1
  cases this
 | succ fuel ih =>
  intro rem listed σ a w hl hM hS hP hLt hsz hun hlt hC
  have full:∀ j,j<ops.size→j∉rem.map (·.1)→listed.getD j false=true:=by
   intro j hj hn
   have h1:¬ listed.getD j true=false:=fun h=>hn ((hun j).1 h)
   have hj':j<listed.size:=by rw[hsz];exact hj
   simp[hj']at h1 ⊢
   exact h1
  refine⟨fun hnil=>?_,fun i hi=>?_⟩
  ·exfalso
   cases rem with
   | nil=>simp at hl
   | cons q rem =>
    obtain⟨i,hi,hmin⟩:=Iq (rk:=rk) ((q::rem).map (·.1)) (by simp)
    have hilt:=hlt i hi
    have hready:i∈Region.ready m ops listed:=by
     refine mem_ready.2 ⟨(hun i).2 hi,ops[i],Array.getElem?_eq_getElem hilt,fun e he hb=>?_⟩
     have hlt':=hE i ops[i] (Array.getElem?_eq_getElem hilt) e he hb
     refine full e.on hlt'.2 fun hm=>?_
     have:=hmin e.on hm
     omega
    rw[hnil]at hready
    cases hready
  ·obtain⟨hiu,o,ho,hall⟩:=mem_ready.1 hi
   have him:=(hun i).1 hiu
   obtain⟨q,hq,hqi⟩:=List.mem_map.1 him
   obtain⟨i',l⟩:=q
   have:i'=i:=hqi
   subst this
   obtain⟨pre,post,rfl⟩:=List.append_of_mem hq
   have hbef:∀ j,((Region.before ops).getD i' 0).testBit j=true→listed.getD j false=true:=by
    intro j hj
    obtain⟨e,he,hb,hje⟩:=MR ho hj
    have hel:=hall e he (vo hb)
    rcases hje with rfl | ⟨_,hje⟩
    ·exact hel
    ·exact hC e.on hel j hje
   have hnc:∀ q∈pre,gJ q.2 l=false:=by
    intro q hq'
    have hpw:=(List.pairwise_append.1 hP).2.2 q hq' (i',l) (aH ..)
    rcases hpw with h1 | h1
    ·exact Nj h1
    ·exfalso
     have h2:=hbef q.1 h1
     have h3:=(hun q.1).2 (List.mem_map.2 ⟨q,ax _ hq',rfl⟩)
     have hq1:q.1<listed.size:=by rw[hsz];exact hlt q.1 (List.mem_map.2 ⟨q,ax _ hq',rfl⟩)
     simp[hq1]at h2 h3
     rw[h2]at h3;cases h3
   obtain⟨σ1,g1,g2⟩:=hS.front hnc
   refine UX hB hM g1 fun a' w' hM'=>?_
   have hP':=List.pairwise_append.1 hP
   have hP2:=List.pairwise_cons.1 hP'.2.1
   rw[List.map_append,bj]at hLt
   have hLt':=List.pairwise_append.1 hLt
   have hLt2:=List.pairwise_cons.1 hLt'.2.1
   have hnot:i'∉(pre++post).map (·.1):=by
    rw[List.map_append,aE]
    rintro (h | h)
    ·have:=hLt'.2.2 i' h i' (aH ..);omega
    ·have:=hLt2.1 i' h;omega
   refine ih (pre++post) (listed.setIfInBounds i' true) σ1 a' w' (by simp at hl ⊢;omega) hM' g2 (List.pairwise_append.2 ⟨hP'.1,hP2.2,fun q hq r hr=>hP'.2.2 q hq r (aI _ hr)⟩)
    (by rw[List.map_append];exact List.pairwise_append.2 ⟨hLt'.1,hLt2.2,fun q hq r hr=>hLt'.2.2 q hq r (aI _ hr)⟩) (by simp[hsz]) (fun j=>?_) (fun j hj=>hlt j ?_) (fun k hk j hj=>?_)
   ·by_cases hji:j=i'
    ·subst hji
     have hj':j<listed.size:=by rw[hsz];exact hlt j him
     constructor
     ·intro h;simp[hj']at h
     ·intro h;exact absurd h hnot
    ·rw[getD_set_ne true (fun e=>hji e.symm),hun j]
     rw[List.map_append,List.map_append,bj,aE,aE,aO]
     constructor
     ·rintro (h | h | h)
      ·exact .inl h
      ·exact absurd h hji
      ·exact .inr h
     ·rintro (h | h)
      ·exact .inl h
      ·exact .inr (.inr h)
   ·rw[List.map_append,aE]at hj
    rw[List.map_append,bj,aE,aO]
    exact hj.imp (fun q=>q) .inr
   ·by_cases hki:k=i'
    ·subst hki;exact getD_set_true (hbef j hj)
    ·rw[getD_set_ne false (fun e=>hki e.symm)]at hk
     exact getD_set_true (hC k hk j hj)
theorem U9(hB:Base E Fa C fn){ops:Array Oper}{id:Nat}{ρ:Type}{K:St E.G→Option ρ}{y:ρ}{Q:Exit→Act→World→Prop}(hQ:∀ σ a w,df C σ a w→K σ=some y→Q .normal a w)(hM:df C σ a w)
  (hm:(ej (E:=E) fn Fa ops ops.toList σ [] fun σ L=>bif jv 0 ops.toList&&ordered (Region.before ops) L then K σ else none)=some y):(Code.region id ops true).wp C.P Q a w:=by
 obtain⟨Ln,σn,g1,g2,g3⟩:=Hq (fn:=fn) ops.toList σ [] (fun k=>by simp) (show Seq Fa (kS (E:=E) fn ops) [] σ σ from rfl) hm
 have hc:(jv 0 ops.toList&&ordered (Region.before ops) Ln)=true:=by
  cases hb:(jv 0 ops.toList&&ordered (Region.before ops) Ln) with
  | true=>rfl
  | false=>rw[hb]at g2;exact b7 g2
 rw[hc]at g2
 simp only[aD]at hc
 have hlen:Ln.length=ops.size:=by rw[g3];simp
 refine wp_region_draw fun t=>?_
 have hMd:df C σ a { w with drawn:=w.drawn+1 }:=by
  obtain⟨S,F,V,h⟩:=hM
  exact⟨S,F,V,h.grow' (Grows.drew w)⟩
 have hfst:=IG Ln
 rw[hlen]at hfst
 have key:∀ m t',wpOps C.P ops Q (Region.linearise m ops t') a { w with drawn:=w.drawn+1 }:=by
  intro m t'
  obtain⟨rk,hE⟩:=N9 hc.1 m
  exact wpAny_sound ops.size t' _ a _ (MI hB m rk (fun a w hM=>hQ σn a w hM g2) hE ops.size (mkS Ln) (Array.replicate ops.size false) σ a _ (by have:=congrArg List.length hfst;simpa using this) hMd g1 (I3 _ Ln hc.2)
   (by rw[hfst];exact List.pairwise_lt_range) (by simp) (fun j=>by
    rw[hfst,List.mem_range]
    by_cases hj:j<ops.size
    ·simp[hj]
    ·simp[hj]) (fun j hj=>by rw[hfst,List.mem_range]at hj;exact hj) (fun k hk=>by
    by_cases hk':k<ops.size
    ·simp[hk']at hk
    ·simp[hk']at hk))
 unfold Region.schedule
 split
 ·exact key _ _
 ·exact key _ _
end
section
variable {T:Tab} {P:Program}
theorem N5(Fa:cr T.Z)(e:Nat)(C:Ctx)(y:Bs T.G.T (eR (T.ent e)))(R:Value→World→Prop)(hW:Within T Fa e C y R):qX T Fa e C y R :=
 fun id ops k K hK σ a w hM hm=>JF (U9 hW.base (K:=K) (y:=y) (Q:=fun ex a w=>match ex with | .normal=>Runs C.P (T.ent e).fn R k a w | _=>False) (fun σ a w hM hm=>hK σ a w hM hm) hM hm)
theorem Ob(hT:TabOK T P)(n:Nat):vf T P (T.run n):=Ij hT N5 n
theorem OK(hT:TabOK T P)(n:Nat):qY T.E P (T.run n):=Hm hT (Jy T n) (Ob hT n)
end
end
section
section
variable {G:Gam}
def u9{T:Nat→Type}(R:(t:FT)→J T t→Prop):(ts:List FT)→Js T ts→Prop
 | [],_=>True
 | t::ts,x=>R t x.1∧u9 R ts x.2
def Mn(l:List Int):Prop:=l.length≤9223372036854775807∧∀ b∈l,0≤b∧b≤255
def Mm{α:Type}(R:α→Prop)(l:List α):Prop:=l.length≤9223372036854775807∧∀ x∈l,R x
def oQ:Nat→(t:FT)→J G.T t→Prop
 | 0,_,_=>True
 | d+1,t,x=>match t,x with
  | .int k,n=>k.wrap n=n
  | .bool,_=>True
  | .ptr,_=>True
  | .str,l=>Mn l
  | .sl e,l=>Mm (oQ d e) l
  | .nm n,x=>u9 (oQ d) (G.fs n) (G.un n x)
variable {S:Nat→Prop} {w:World}
theorem G6{R:(t:FT)→J G.T t→Prop}{Q:(t:FT)→J G.T t→List Value→List Nat→Prop}(h:∀ t x c F,Q t x c F→R t x):∀ (ts:List FT) (x:Js G.T ts) (cs:List Value) (F:List Nat),RepFs Q ts x cs F→u9 R ts x
 | [],x,cs,F,_=>trivial
 | t::ts,x,cs,F,⟨c1,c2,F1,F2,_,_,h3,h4⟩=>⟨h t x.1 c1 F1 h3,G6 h ts x.2 c2 F2 h4⟩
theorem G7{α:Type}{R:α→Prop}{Q:α→List Value→List Nat→Prop}(h:∀ x c F,Q x c F→R x):∀ (l:List α) (cs:List Value) (F:List Nat),RepL Q l cs F→∀ x∈l,R x
 | [],cs,F,_,x,hx=>by cases hx
 | y::l,cs,F,⟨c1,c2,F1,F2,_,_,h3,h4⟩,x,hx=>by
  rcases aO.1 hx with rfl | hx
  ·exact h x c1 F1 h3
  ·exact G7 h l c2 F2 h4 x hx
theorem M8{s:ByteArray}:∀ b∈ct s,0≤b∧b≤255:=by
 intro b hb
 unfold ct at hb
 obtain⟨u,_,rfl⟩:=List.mem_map.1 hb
 have:=u.toNat_lt
 omega
theorem RepE.fine:∀ (d:Nat) (o:Bool) (t:FT) (x:J G.T t) (cs:List Value) (F:List Nat),RepE (G:=G) S w o t x cs F→oQ d t x:=by
 intro d
 induction d with
 | zero=>intro o t x cs F h;trivial
 | succ d ih =>
  intro o t x cs F h
  cases t with
  | int k=>exact(repE_int.1 h).2.1
  | bool=>trivial
  | ptr=>trivial
  | str =>
   obtain⟨s,_,e,_,hs⟩:=repE_str.1 h
   subst e
   exact⟨by rw[show List.length (α:=Int) (ct s)=s.size from fR s];exact hs,M8⟩
  | sl e =>
   rcases repE_sl.1 h with ⟨_,e0,_⟩ | ⟨b,off,cap,c,E,fz,F',h1,h2,h3,h4,h5⟩
   ·subst e0
    exact⟨Nat.zero_le _,fun y hy=>by cases hy⟩
   ·refine⟨?_,G7 (fun x c F hx=>ih o e x c F hx) _ _ _ h4⟩
    cases o with
    | true=>rw[bw rfl]at h5;exact Nat.le_trans h2 h5.2.2.2.1
    | false=>rw[bz (by decide)]at h5;exact h5.2.2.2
  | nm n=>exact G6 (fun t x c F hx=>ih o t x c F hx) _ _ _ _ (repE_nm.1 h)
end
section
variable {G:Gam} {P:Program} {ty:Nat→Option FT} {H:Type} {enc:TypeId×Value→H} {w:World} {base:Nat} {spare:Nat→Bool} {held:Bool}
theorem Zb{k:IntKind}{n:Int}(h:(Lit.int k n).wf=true):k.wrap n=n:=by
 simp only[Lit.wf,aD,decide_eq_true_eq]at h
 cases k <;> simp[IntKind.min,IntKind.max,IntKind.bits,IntKind.signed]at h
 ·rw[uJ];omega
 ·rw[uI];omega
 ·rw[IntKind.wrap_i32];omega
 ·rw[IntKind.wrap_i64];omega
 ·rw[IntKind.wrap_u8];omega
 ·rw[uK];omega
 ·rw[IntKind.wrap_u32];omega
 ·rw[IntKind.wrap_u64];omega
theorem Gs{α:Type}(p:Nat→α→Prop):∀ (n:Nat),(∀ i,i<n→∃ y,p i y)→∃ l:List α,l.length=n∧∀ i (h:i<l.length),p i l[i]
 | 0,_=>⟨[],rfl,fun i h=>by simp at h⟩
 | n+1,h=>by
  obtain⟨l,hl,hp⟩:=Gs p n fun i hi=>h i (by omega)
  obtain⟨y,hy⟩:=h n (Nat.lt_succ_self n)
  refine⟨l++[y],by simp[hl],fun i hi=>?_⟩
  by_cases e:i<l.length
  ·rw[List.getElem_append_left e];exact hp i e
  ·have:i=n:=by simp at hi;omega
   subst this
   rw[List.getElem_append_right (by omega)]
   simpa [hl]using hy
theorem Jo{α:Type}{R:α→List Value→List Nat→Prop}{n:Nat}:∀ (l:List α) (cs:List Value),cs.length=l.length*n→(∀ i (h:i<l.length),R l[i] ((cs.drop (i*n)).take n) [])→RepL R l cs []
 | [],cs,hl,_=>⟨List.eq_nil_of_length_eq_zero (by simpa using hl),rfl⟩
 | x::l,cs,hl,h=>by
  rw[aW,Nat.add_mul,Nat.one_mul]at hl
  refine⟨cs.take n,cs.drop n,[],[],(List.take_append_drop ..).symm,rfl,by have:=h 0 (by simp);rw[Nat.zero_mul,aQ]at this;exact this,Jo (n:=n) l (cs.drop n) (by rw[aV];omega) fun i hi=>?_⟩
  have:=h (i+1) (by simpa using hi)
  rw[List.drop_drop,show n+i*n=(i+1)*n by rw[Nat.add_mul,Nat.one_mul,Nat.add_comm]]
  simpa using this
theorem Un(hT:∀ t ft,ty t=some ft→dh G P ty t ft=true):∀ (fuel:Nat) (t:TypeId) (ft:FT) (cs:List Value) (x:DataW H×List MemPlace),ty t=some ft→DataW.trod enc P w base spare held fuel t cs=some x→∃ y:J G.T ft,RepE (G:=G) (fun b=>b<w.heap.size) w false ft y cs []:=by
 intro fuel
 induction fuel with
 | zero=>intro t ft cs x ht h;simp[DataW.trod]at h
 | succ fuel ih =>
  intro t ft cs x ht h
  obtain⟨inf,z,hty⟩:=TyOK.of (hT t ft ht)
  have hd:=hty.desc
  cases ft with
  | int k =>
   obtain⟨n,rfl,_,hw⟩:=DataW.trod_int hd h
   exact⟨n,repE_int.2 ⟨rfl,Zb hw,rfl⟩⟩
  | bool =>
   obtain⟨b,rfl,_⟩:=DataW.trod_bool hd h
   exact⟨b,repE_bool.2 ⟨rfl,rfl⟩⟩
  | ptr =>
   obtain⟨et,hu⟩:=hd
   have hc:∃ a,cs=[.pointer a]:=by
    rcases DataW.trod_pointer hu h with ⟨h1,_⟩ | ⟨a,cs',y,m,_,h1,_⟩
    ·exact⟨_,h1⟩
    ·exact⟨_,h1⟩
   obtain⟨a,hc⟩:=hc
   exact⟨(),repE_ptr.2 ⟨a,hc,rfl⟩⟩
  | str =>
   obtain⟨s,rfl,_,hs⟩:=DataW.trod_string hd h
   exact⟨ct s,repE_str.2 ⟨s,rfl,rfl,rfl,hs⟩⟩
  | sl e =>
   obtain⟨et,hu,he⟩:=hd
   obtain⟨inf',z',hty'⟩:=TyOK.of (hT et e he)
   have hce:P.cellsOf et=e.sz G.sz:=by unfold Program.cellsOf;rw[hty'.info];exact hty'.size
   have hpos:=hty'.pos
   rcases DataW.trod_slice hu h with ⟨rfl,_⟩ | ⟨a,len,cap,elems,rest,n,hn,rfl,_,hb,hl,hm,hlen,hel,_,_⟩
   ·exact⟨[],repE_sl.2 (.inl ⟨lM _,rfl,rfl⟩)⟩
   ·have hn':fuel=n:=by omega
    subst hn'
    have each:∀ i,i<len→∃ y:J G.T e,∃ cs',w.cells? base (a.add (i*e.sz G.sz)) (e.sz G.sz)=some cs'∧RepE (G:=G) (fun b=>b<w.heap.size) w false e y cs' []:=by
     intro i hi
     have h1:=hel i hi
     rw[hce,List.getElem?_eq_getElem (by omega)]at h1
     obtain⟨cs',h2,h3⟩:=Option.bind_eq_some_iff.1 h1
     obtain⟨y,hy⟩:=ih et e cs' _ he h3
     exact⟨y,cs',h2,hy⟩
    obtain⟨l,hll,hlp⟩:=Gs _ len each
    refine⟨l,?_⟩
    by_cases h0:len=0
    ·have:l=[]:=List.eq_nil_of_length_eq_zero (by omega)
     subst this
     subst h0
     exact repE_sl.2 (.inl ⟨⟨some a,cap,rfl,fun h=>(by cases h),fun h=>(by cases h)⟩,rfl,rfl⟩)
    ·
     have hcell:∀ i,i<len→∀ k,k<e.sz G.sz→∃ u,w.cell? (a.add (i*e.sz G.sz+k))=some u:=by
      intro i hi k hk
      obtain⟨cs',h2,_⟩:=hlp i (by omega)
      obtain⟨_,h3,h4⟩:=World.cells?_some h2
      have:=h4 k hk
      rw[Go.Deep.add_add]at this
      rw[this,List.getElem?_eq_getElem (by omega)]
      exact⟨_,rfl⟩
     obtain⟨u0,hu0⟩:=hcell 0 (by omega) 0 hpos
     have ha0:a.add (0*e.sz G.sz+0)=a:=by simp[Addr.add]
     rw[ha0]at hu0
     obtain⟨b,off,sp⟩:=a
     unfold World.cell? at hu0
     split at hu0
     ·rename_i c E fz hbk
      split at hu0
      ·cases hu0
      ·rename_i hsp
       have hsp':sp=none:=by cases sp <;> simp at hsp;rfl
       subst hsp'
       have hat:∀ i,i<len→∀ k,k<e.sz G.sz→off+(i*e.sz G.sz+k)<c.size:=by
        intro i hi k hk
        obtain⟨u,hu⟩:=hcell i hi k hk
        rw[gH]at hu
        simp only[World.cell?,hbk]at hu
        exact(Array.getElem?_eq_some_iff.1 (by simpa using hu)).1
       have hfit:off+len*e.sz G.sz≤c.size:=by
        have:=hat (len-1) (by omega) (e.sz G.sz-1) (by omega)
        have e1:len*e.sz G.sz=(len-1)*e.sz G.sz+e.sz G.sz:=by
         conv=>lhs;rw[show len=(len-1)+1 by omega,Nat.add_mul,Nat.one_mul]
        omega
       refine repE_sl.2 (.inr ⟨b,off,cap,c,E,fz,[],by rw[hll],by omega,hbk,?_,?_⟩)
       ·have hcl:((c.toList.drop off).take (l.length*e.sz G.sz)).length=l.length*e.sz G.sz:=by
         rw[aU,aV,show c.toList.length=c.size from aJ,hll];omega
        refine Jo (n:=e.sz G.sz) l _ hcl fun i hi=>?_
        obtain⟨cs',h2,h3⟩:=hlp i hi
        obtain⟨_,h5,h6⟩:=World.cells?_some h2
        have:(((c.toList.drop off).take (l.length*e.sz G.sz)).drop (i*e.sz G.sz)).take (e.sz G.sz)=cs':=by
         have hmul:(i+1)*e.sz G.sz≤l.length*e.sz G.sz:=aM _ hi
         rw[Nat.add_mul,Nat.one_mul]at hmul
         apply List.ext_getElem?
         intro k
         by_cases hk:k<e.sz G.sz
         ·rw[List.getElem?_take,bw hk,List.getElem?_drop,List.getElem?_take,bw (by omega),List.getElem?_drop,Array.getElem?_toList,← h6 k hk,Go.Deep.add_add,gH]
          simp[World.cell?,hbk]
         ·rw[List.getElem?_eq_none (by rw[aU];omega),List.getElem?_eq_none (by omega)]
        rw[this];exact h3
       ·rw[bz (by decide),hll]
        exact⟨(Array.getElem?_eq_some_iff.1 hbk).1,rfl,hfit,by have:=hm;unfold maxLen at this;omega⟩
     ·cases hu0
  | nm n =>
   obtain⟨fs,hu,hfs⟩:=hd
   obtain⟨xs,m,hn,_,hcl,hxl,hx⟩:=DataW.trod_struct hu h
   have hn':fuel=m:=by omega
   subst hn'
   have hsz:P.cellsOf t=FT.szs G.sz (G.fs n):=by
    unfold Program.cellsOf;rw[hty.info]
    show inf.size=_
    rw[hty.size];exact G.sz_eq n
   rw[hsz]at hcl
   have key:∀ (ts:List FT) (gs:List Field) (off:Nat),fg G P ty off gs ts=true→cs.length=off+FT.szs G.sz ts→(∀ g∈gs,∃ x,DataW.trod enc P w base spare held fuel g.type ((cs.drop g.offset).take (P.cellsOf g.type))=some x) →
     ∃ y:Js G.T ts,RepFs (fun t y=>RepE (G:=G) (fun b=>b<w.heap.size) w false t y) ts y (cs.drop off) []:=by
    intro ts
    induction ts with
    | nil =>
     intro gs off hf hl hg
     exact⟨(),a7 (by simp[FT.szs]at hl;omega),rfl⟩
    | cons t' ts iht =>
     intro gs off hf hl hg
     cases gs with
     | nil=>simp[fg]at hf
     | cons g gs =>
      simp only[fg,aD]at hf
      obtain⟨⟨⟨f1,f2⟩,f3⟩,f4⟩:=hf
      have hl':cs.length=off+(t'.sz G.sz+FT.szs G.sz ts):=hl
      have hgt:ty g.type=some t':=by
       cases hq:ty g.type with
       | none=>rw[hq]at f2;cases f2
       | some q=>rw[hq]at f2;rw[FT.eq?_some f2]
      have hgs:P.cellsOf g.type=t'.sz G.sz:=by
       unfold Program.cellsOf
       cases hin:P.info? g.type with
       | none=>rw[hin]at f3;cases f3
       | some i=>rw[hin]at f3;simp only[aD]at f3;exact cn f3.1
      obtain⟨q,hq⟩:=hg g (aH ..)
      rw[cn f1,hgs]at hq
      obtain⟨y,hy⟩:=ih g.type t' _ q hgt hq
      obtain⟨ys,hys⟩:=iht gs (off+t'.sz G.sz) f4 (by omega) fun g' hg'=>hg g' (aI _ hg')
      exact⟨(y,ys),(cs.drop off).take (t'.sz G.sz),cs.drop (off+t'.sz G.sz),[],[],by rw[← List.drop_drop,List.take_append_drop],rfl,hy,hys⟩
   obtain⟨y,hy⟩:=key (G.fs n) fs.toList 0 hfs (by omega) fun g hg=>by
    obtain⟨i,hi,rfl⟩:=bq.1 hg
    have h4:=hx i fs.toList[i] (by rw[← Array.getElem?_toList];simp)
    have h5:i<xs.length:=by rw[hxl];simpa using hi
    exact⟨xs[i],by rw[h4,List.getElem?_eq_getElem h5]⟩
   refine⟨G.pk n y,repE_nm.2 ?_⟩
   show RepFs _ _ (G.un n (G.pk n y)) _ _
   rw[G.un_pk]
   simpa using hy
end
end
section
structure Pt (Z:Sig) where
 f:Nat
 x:Bs Z.G.T (Z.inp f)
 y:Bs Z.G.T (Z.out f)
def Has{Z:Sig}(F:cr Z)(p:Pt Z):Prop:=F p.f p.x=some p.y
def Fnt{Z:Sig}{ρ:Type}(f:cr Z→Option ρ):Prop:=∀ F y,f F=some y→∃ l:List (Pt Z),(∀ p∈l,Has F p)∧∀ F',(∀ p∈l,Has F' p)→f F'=some y
section
variable {Z:Sig} {ρ α β:Type}
theorem eG(o:Option ρ):Fnt (Z:=Z) fun _=>o:=fun F y h=>⟨[],fun p hp=>(by cases hp),fun _ _=>h⟩
theorem Hf{g:cr Z→Option α}{k:cr Z→α→Option ρ}(hg:Fnt g)(hk:∀ y,Fnt fun F=>k F y):Fnt fun F=>(g F).bind (k F):=by
 intro F y h
 obtain⟨a,h1,h2⟩:=Option.bind_eq_some_iff.1 h
 obtain⟨l1,k1,k2⟩:=hg F a h1
 obtain⟨l2,k3,k4⟩:=hk a F y h2
 refine⟨l1++l2,fun p hp=>(aE.1 hp).elim (k1 p) (k3 p),fun F' h'=>?_⟩
 show(g F').bind (k F')=some y
 rw[k2 F' fun p hp=>h' p (ax _ hp)]
 exact k4 F' fun p hp=>h' p (ay _ hp)
theorem amb_eq{a b:Option ρ}{y:ρ}:amb a b=some y↔a=some y∧b=some y:=by
 unfold amb
 constructor
 ·intro h
  split at h
  ·rename_i e;subst e;exact⟨h,h⟩
  ·cases h
 ·rintro ⟨h1,h2⟩;rw[h1,h2,bw rfl]
theorem Oy{g h:cr Z→Option ρ}(hg:Fnt g)(hh:Fnt h):Fnt fun F=>amb (g F) (h F):=by
 intro F y e
 obtain⟨e1,e2⟩:=amb_eq.1 e
 obtain⟨l1,k1,k2⟩:=hg F y e1
 obtain⟨l2,k3,k4⟩:=hh F y e2
 refine⟨l1++l2,fun p hp=>(aE.1 hp).elim (k1 p) (k3 p),fun F' h'=>amb_eq.2 ⟨k2 F' fun p hp=>h' p (ax _ hp),k4 F' fun p hp=>h' p (ay _ hp)⟩⟩
theorem v6(f:Nat)(x:Bs Z.G.T (Z.inp f)):Fnt fun F:cr Z=>F f x:=fun F y h =>
 ⟨[⟨f,x,y⟩],fun p hp=>by rw[aN.1 hp];exact h,fun F' h'=>h' _ (aN.2 rfl)⟩
theorem Fnt.mono{f:cr Z→Option ρ}(hf:Fnt f){F F':cr Z}(h:∀ κ x y,F κ x=some y→F' κ x=some y){y:ρ}(hy:f F=some y):f F'=some y:=by
 obtain⟨l,h1,h2⟩:=hf F y hy
 exact h2 F' fun p hp=>h _ _ _ (h1 p hp)
theorem jz:∀ (m:M Z α) (σ:St Z.G) (K:cr Z→α→St Z.G→Option ρ),(∀ a σ,Fnt fun F=>K F a σ)→Fnt fun F=>m.go F σ (K F):=by
 intro m
 induction m with
 | ret a=>intro σ K h;exact h a σ
 | fail=>intro σ K h;exact eG none
 | getP t k ih=>intro σ K h;exact ih _ σ K h
 | setP t p k ih=>intro σ K h;exact ih _ K h
 | getS s k ih=>intro σ K h;exact ih _ σ K h
 | setS s x k ih=>intro σ K h;exact ih _ K h
 | br b k ih =>
  intro σ K h
  show Fnt fun F=>if b=true then(k true).go F σ (K F) else(k false).go F σ (K F)
  cases b with
  | true=>exact ih true σ K h
  | false=>exact ih false σ K h
 | chk c d k ih =>
  intro σ K h
  by_cases hc:c
  ·simp only[M.go,bw hc];exact ih σ K h
  ·simp only[M.go,bz hc];exact eG none
 | call f x k ih=>intro σ K h;exact Hf (v6 f x) fun y=>ih y σ K h
theorem rG:∀ (m:M Z α) (σ:St Z.G) (l:List Acc) (K:cr Z→α→St Z.G→List Acc→Option ρ),(∀ a σ l,Fnt fun F=>K F a σ l)→Fnt fun F=>m.goL F σ l (K F):=by
 intro m
 induction m with
 | ret a=>intro σ l K h;exact h a σ l
 | fail=>intro σ l K h;exact eG none
 | getP t k ih=>intro σ l K h;exact ih _ σ _ K h
 | setP t p k ih=>intro σ l K h;exact ih _ _ K h
 | getS s k ih=>intro σ l K h;exact ih _ σ _ K h
 | setS s x k ih=>intro σ l K h;exact ih _ _ K h
 | br b k ih =>
  intro σ l K h
  show Fnt fun F=>if b=true then(k true).goL F σ l (K F) else(k false).goL F σ l (K F)
  cases b with
  | true=>exact ih true σ l K h
  | false=>exact ih false σ l K h
 | chk c d k ih =>
  intro σ l K h
  by_cases hc:c
  ·simp only[M.goL,bw hc];exact ih σ l K h
  ·simp only[M.goL,bz hc];exact eG none
 | call f x k ih=>intro σ l K h;exact Hf (v6 f x) fun y=>ih y σ l K h
end
section
variable {E:Env} (fn:Fn) {ρ:Type}
theorem Hi(ops:Array Oper)(o:Oper)(σ:St E.G)(K:cr E.Z→St E.G→Option ρ)(h:∀ σ,Fnt fun F=>K F σ):Fnt fun F=>jj (E:=E) fn F ops o σ (K F):=by
  unfold jj
  cases o.guard with
  | none=>exact jz _ σ (fun F _ σ=>K F σ) fun _ σ=>h σ
  | some jw =>
   obtain⟨j,want⟩:=jw
   dsimp only
   cases (ops[j]?).bind (·.dst) with
   | none=>exact eG none
   | some t =>
    dsimp only
    cases asG (σ.pin t) with
    | none =>
     cases fC (σ.pin t) with
     | true=>exact jz _ σ (fun F _ σ=>K F σ) fun _ σ=>h σ
     | false=>exact eG none
    | some b =>
     dsimp only
     cases b with
     | true=>exact jz _ _ (fun F _ σ=>K F σ) fun _ σ=>h σ
     | false=>exact jz _ _ (fun F _ σ=>K F σ) fun _ σ=>h σ
theorem v8(ops:Array Oper):∀ (os:List Oper) (σ:St E.G) (K:cr E.Z→St E.G→Option ρ),(∀ σ,Fnt fun F=>K F σ)→Fnt fun F=>fX (E:=E) fn F ops os σ (K F)
 | [],σ,K,h=>h σ
 | o::os,σ,K,h=>by
  show Fnt fun F=>bif qJ fn o then jj (E:=E) fn F ops o σ (fun σ=>fX fn F ops os (gK σ) (K F))else jj (E:=E) fn F ops o σ (fun σ=>fX fn F ops os σ (K F))
  cases qJ fn o with
  | true=>exact Hi fn ops o σ (fun F σ=>fX fn F ops os (gK σ) (K F)) fun σ=>v8 ops os (gK σ) K h
  | false=>exact Hi fn ops o σ (fun F σ=>fX fn F ops os σ (K F)) fun σ=>v8 ops os σ K h
theorem ph(ops:Array Oper):∀ (os:List Oper) (σ:St E.G) (L:List (List Acc)) (K:cr E.Z→St E.G→List (List Acc)→Option ρ),(∀ σ L,Fnt fun F=>K F σ L)→Fnt fun F=>ej (E:=E) fn F ops os σ L (K F)
 | [],σ,L,K,h=>h σ L
 | o::os,σ,L,K,h=>by
  unfold ej
  cases o.guard with
  | none=>exact rG _ σ _ (fun F _ σ l=>ej fn F ops os σ (l::L) (K F)) fun _ σ l=>ph ops os σ _ K h
  | some jw =>
   obtain⟨j,want⟩:=jw
   dsimp only
   cases (ops[j]?).bind (·.dst) with
   | none=>exact eG none
   | some t =>
    dsimp only
    cases asG (σ.pin t) with
    | none =>
     cases fC (σ.pin t) with
     | true=>exact rG _ σ _ (fun F _ σ l=>ej fn F ops os σ (l::L) (K F)) fun _ σ l=>ph ops os σ _ K h
     | false=>exact eG none
    | some b =>
     dsimp only
     cases b with
     | true=>exact rG _ _ _ (fun F _ σ l=>ej fn F ops os σ (l::L) (K F)) fun _ σ l=>ph ops os σ _ K h
     | false=>exact rG _ _ _ (fun F _ σ l=>ej fn F ops os σ (l::L) (K F)) fun _ σ l=>ph ops os σ _ K h
end
section
variable (T:Tab) (e:Nat)
theorem OA(κ:Nat)(σ:St T.G):Fnt fun F=>T.toKey F e κ σ:=by
 unfold Tab.toKey
 refine jz (Z:=T.Z) _ σ (fun F ds _=>_) fun ds _=>?_
 cases fv T.E (T.Z.inp κ) ds with
 | none=>exact eG none
 | some x =>
  dsimp only
  by_cases h:(T.key κ).ent=e
  ·simp only[dif_pos h]
   subst h
   exact v6 (Z:=T.Z) κ x
  ·simp only[dif_neg h];exact eG none
theorem pg(p:Nat)(k:cr T.Z→T.Co e)(hk:∀ σ,Fnt fun F=>k F σ)(σ:St T.G):Fnt fun F=>T.join F e p (k F) σ:=by
 unfold Tab.join
 cases iV (T.ent e).joins p with
 | none=>exact hk σ
 | some κ=>exact OA T e κ σ
theorem Hh(σ:St T.G):Fnt fun F=>T.retC F e σ:=by
 unfold Tab.retC
 exact jz (Z:=T.Z) _ σ (fun F _ σ=>_) fun _ σ=>jz (Z:=T.Z) _ σ (fun F ds σ=>_) fun ds σ=>jz (Z:=T.Z) _ σ (fun F ds' _=>_) fun ds' _=>eG _
abbrev Cx:=List (Nat×(cr T.Z→T.Co e))
def atF(c:Cx T e)(F:cr T.Z):List (Nat×T.Co e):=c.map fun q=>(q.1,q.2 F)
theorem GH:∀ (c:Cx T e) (i:Nat),(∀ F,ik (atF T e c F) i=none)∨∃ q∈c,∀ F,ik (atF T e c F) i=some (q.2 F)
 | [],i=>.inl fun F=>rfl
 | (j,k)::c,i=>by
  have e1:∀ F,ik (atF T e ((j,k)::c) F) i=bif Nat.beq j i then some (k F)else ik (atF T e c F) i:=fun F=>rfl
  cases hj:Nat.beq j i with
  | true=>exact .inr ⟨(j,k),aH ..,fun F=>by rw[e1,hj];rfl⟩
  | false =>
   rcases GH c i with h | ⟨q,hq,h⟩
   ·exact .inl fun F=>by rw[e1,hj];exact h F
   ·exact .inr ⟨q,aI _ hq,fun F=>by rw[e1,hj];exact h F⟩
theorem v7:∀ (a:Code) (p:Nat) (c:Cx T e) (k:cr T.Z→T.Co e),(∀ q∈c,∀ σ,Fnt fun F=>q.2 F σ)→(∀ σ,Fnt fun F=>k F σ)→∀ σ,Fnt fun F=>evC T F e a p (atF T e c F) (k F) σ:=by
 intro a
 induction a with
 | skip=>intro p c k hc hk σ;exact hk σ
 | region r ops drawn =>
  intro p c k hc hk σ
  cases drawn with
  | false=>exact v8 (E:=T.E) _ ops _ σ k hk
  | true =>
   refine ph (E:=T.E) _ ops _ σ [] (fun F σ L=>bif jv 0 ops.toList&&ordered (Region.before ops) L then k F σ else none) fun σ L=>?_
   cases jv 0 ops.toList&&ordered (Region.before ops) L with
   | true=>exact hk σ
   | false=>exact eG none
 | seq a b iha ihb =>
  intro p c k hc hk σ
  exact iha (2*p) c (fun F=>T.join F e (2*p+1) (evC T F e b (2*p+1) (atF T e c F) (k F))) hc (fun σ=>pg T e _ _ (fun σ=>ihb _ c k hc hk σ) σ) σ
 | cond x a b iha ihb =>
  intro p c k hc hk σ
  refine jz (Z:=T.Z) _ σ (fun F q σ=>_) fun q σ=>?_
  cases asB q with
  | none =>
   cases wZ (E:=T.E) q with
   | false=>exact eG none
   | true=>exact Oy (iha _ c k hc hk σ) (ihb _ c k hc hk σ)
  | some t=>cases t with
   | true=>exact iha _ c k hc hk σ
   | false=>exact ihb _ c k hc hk σ
 | block i a iha =>
  intro p c k hc hk σ
  exact iha (2*p) ((i,k)::c) k (fun q hq=>by rcases aO.1 hq with rfl | hq;exact hk;exact hc q hq) hk σ
 | loop a iha=>intro p c k hc hk σ;exact pg T e p (fun _ _=>none) (fun σ=>eG none) σ
 | exit i =>
  intro p c k hc hk σ
  show Fnt fun F=>(match ik (atF T e c F) i with | some k=>k | none=>fun _=>none) σ
  rcases GH T e c i with h | ⟨q,hq,h⟩
  ·simp only[h];exact eG none
  ·simp only[h];exact hc q hq σ
 | ret=>intro p c k hc hk σ;exact Hh T e σ
 | _=>intro p c k hc hk σ;exact eG none
theorem Oz:∀ (ds:List Bool) (a:Code) (p:Nat) (c:Cx T e) (k:cr T.Z→T.Co e),(∀ q∈c,∀ σ,Fnt fun F=>q.2 F σ)→(∀ σ,Fnt fun F=>k F σ)→∀ σ,Fnt fun F=>il T F e a ds p (atF T e c F) (k F) σ:=by
 have cons:∀ (c:Cx T e) (i:Nat) (k:cr T.Z→T.Co e),(∀ q∈c,∀ σ,Fnt fun F=>q.2 F σ)→(∀ σ,Fnt fun F=>k F σ)→∀ q∈(i,k)::c,∀ σ,Fnt fun F=>q.2 F σ:=fun c i k hc hk q hq=>by
  rcases aO.1 hq with rfl | hq
  ·exact hk
  ·exact hc q hq
 intro ds
 induction ds with
 | nil =>
  intro a p c k hc hk σ
  cases a with
  | loop a=>exact v7 T e a _ c (fun F=>T.join F e p fun _=>none) hc (fun σ=>pg T e p (fun _ _=>none) (fun σ=>eG none) σ) σ
  | _=>exact v7 T e _ p c k hc hk σ
 | cons d ds ih =>
  intro a p c k hc hk σ
  cases a with
  | seq a b =>
   cases d with
   | false=>exact ih a (2*p) c (fun F=>T.join F e (2*p+1) (evC T F e b (2*p+1) (atF T e c F) (k F))) hc (fun σ=>pg T e _ _ (fun σ=>v7 T e b _ c k hc hk σ) σ) σ
   | true=>exact ih b _ c k hc hk σ
  | cond x a b =>
   cases d with
   | false=>exact ih a _ c k hc hk σ
   | true=>exact ih b _ c k hc hk σ
  | block i a=>exact ih a (2*p) ((i,k)::c) k (cons c i k hc hk) hk σ
  | loop a=>exact ih a (2*p) c (fun F=>T.join F e p fun _=>none) hc (fun σ=>pg T e p (fun _ _=>none) (fun σ=>eG none) σ) σ
  | _=>exact eG none
end
noncomputable def Tab.step(T:Tab)(F:cr T.Z):cr T.Z:=fun κ x=>bif (T.ent (T.key κ).ent).ex then T.ext κ x else il T F (T.key κ).ent (T.ent (T.key κ).ent).code (T.key κ).dirs 1 [] (T.retC F (T.key κ).ent) (cV (T.key κ).forms x)
theorem v9(T:Tab)(κ:Nat)(x:Bs T.G.T (T.Z.inp κ)):Fnt fun F=>T.step F κ x:=by
 unfold Tab.step
 cases (T.ent (T.key κ).ent).ex with
 | true=>exact eG _
 | false=>exact Oz T (T.key κ).ent (T.key κ).dirs _ 1 [] (fun F=>T.retC F (T.key κ).ent) (fun q hq=>(by cases hq)) (fun σ=>Hh T _ σ) _
theorem JA(T:Tab):∀ (n:Nat) κ x y,T.run n κ x=some y→T.run (n+1) κ x=some y
 | 0,κ,x,y,h=>by cases h
 | n+1,κ,x,y,h=>(v9 T κ x).mono (F:=T.run n) (F':=T.run (n+1)) (JA T n) h
theorem sQ(T:Tab){n m:Nat}(h:n≤m){κ x y}(hy:T.run n κ x=some y):T.run m κ x=some y:=by
 induction h with
 | refl=>exact hy
 | step _ ih=>exact JA T _ _ _ _ ih
open Classical in
noncomputable def Tab.lim(T:Tab):cr T.Z:=fun κ x=>if h:∃ n y,T.run n κ x=some y then T.run (Classical.choose h) κ x else none
theorem pX(T:Tab){κ x y}:T.lim κ x=some y ↔ ∃ n,T.run n κ x=some y:=by
 unfold Tab.lim
 constructor
 ·intro h
  split at h
  ·exact⟨_,h⟩
  ·cases h
 ·rintro ⟨n,h⟩
  have hx:∃ n y,T.run n κ x=some y:=⟨n,y,h⟩
  rw[dif_pos hx]
  obtain⟨y',h'⟩:=Classical.choose_spec hx
  have e1:=sQ T (Nat.le_max_left (Classical.choose hx) n) h'
  have e2:=sQ T (Nat.le_max_right (Classical.choose hx) n) h
  rw[h',← e1,e2]
theorem Iu(T:Tab)(κ:Nat)(x:Bs T.G.T (T.Z.inp κ)):T.lim κ x=T.step T.lim κ x:=by
 apply Option.ext
 intro y
 constructor
 ·intro h
  obtain⟨n,hn⟩:=(pX T).1 h
  cases n with
  | zero=>cases hn
  | succ n=>exact(v9 T κ x).mono (F:=T.run n) (fun κ x y h=>(pX T).2 ⟨n,h⟩) hn
 ·intro h
  obtain⟨l,h1,h2⟩:=v9 T κ x T.lim y h
  have:∃ N,∀ p∈l,Has (T.run N) p:=by
   clear h2
   induction l with
   | nil=>exact⟨0,fun p hp=>(by cases hp)⟩
   | cons p l ih =>
    obtain⟨N,hN⟩:=ih fun q hq=>h1 q (aI _ hq)
    obtain⟨n,hn⟩:=(pX T).1 (h1 p (aH ..))
    refine⟨max n N,fun q hq=>?_⟩
    rcases aO.1 hq with rfl | hq
    ·exact sQ T (Nat.le_max_left _ _) hn
    ·exact sQ T (Nat.le_max_right _ _) (hN q hq)
  obtain⟨N,hN⟩:=this
  exact(pX T).2 ⟨N+1,h2 _ hN⟩
end
section
open Go.RowKit
set_option linter.unusedVariables false
section
variable {T:Tab} {P:Program} {W:World}
theorem Ow{b:BT}{v:Value}{ms:List Mode}{vs:List Value}{vits:List (PM×BT×Value)}(h:eO ms vs vits):eO (.val b::ms) (v::vs) ((.val,b,v)::vits) :=
 ⟨v,vs,[(.val,b,v)],vits,rfl,rfl,rfl,h⟩
theorem Ov:eO [] [] []:=⟨rfl,rfl⟩
theorem Qm{S:Nat→Prop}{G:Gam}:fe (G:=G) S W [] [] []:=⟨rfl,rfl⟩
theorem Ql{S:Nat→Prop}{G:Gam}{it:PM×BT×Value}{its:List (PM×BT×Value)}{d:DV G.T}{ds:List (DV G.T)}(h:m9 S W it.1 it.2.1 it.2.2 d [])(hr:fe S W its ds []):fe (G:=G) S W (it::its) (d::ds) [] :=
 ⟨d,ds,[],[],rfl,rfl,h,hr⟩
theorem oY{v u:Value}(h:v.cells.toList=[u])(hv:∀ cs,v ≠ .agg cs):v=u:=by
 cases v <;> simp[Value.cells]at h <;> first | exact h | exact absurd rfl (hv _)
def kN:List Mode→Bool
 | []=>true
 | .ref _ _ _ _::_=>false
 | .val _::ms=>kN ms
 | .own _::ms=>kN ms
 | .io _::ms=>kN ms
 | .ptr _ _::ms=>kN ms
 | .clo _ _::ms=>kN ms
theorem nM{w:World}:∀ (ms:List Mode) (its:List (PM×BT×Value)),kN ms=true→dR w ms its
 | [],_,_=>trivial
 | .val _::ms,its,h=>nM ms (its.drop 1) h
 | .own _::ms,its,h=>nM ms (its.drop 1) h
 | .io _::ms,its,h=>nM ms (its.drop 1) h
 | .ptr _ _::ms,its,h=>nM ms (its.drop 1) h
 | .clo _ bs::ms,its,h=>nM ms (its.drop bs.length) h
 | .ref _ _ _ _::_,_,h=>by cases h
theorem Qy(hT:TabOK T P){f k:Nat}(hc:T.call f []=some k){x:Bs T.G.T (T.Z.inp k)}{y:Bs T.G.T (T.Z.out k)}(hl:T.lim k x=some y)
  (hex:(T.ent (T.key k).ent).ex=false) (hres:(T.ent (T.key k).ent).res.length=1) (hy:cL (T.Z.out k) y=[⟨.leaf false .bool,true⟩]) {vs:List Value} {vits:List (PM×BT×Value)} (hV:eO (T.ent (T.key k).ent).modes vs vits)
  {ds:List (DV T.G.T)} (hx:cL (T.Z.inp k) x=ds) (hI:fe (G:=T.G) (fun b=>b<W.heap.size) W vits ds []) (hG:Laid P T.tabs (fun b=>b<W.heap.size) W) (hnr:kN (T.ent (T.key k).ent).modes=true) :
  Calls P f vs.toArray W fun e W'=>e = .returned (.bool true)∧Below W.heap.size W W':=by
 obtain⟨n,hn⟩:=(pX T).1 hl
 have hent:T.E.ent f []=some (k,(T.ent (T.key k).ent).modes,(T.ent (T.key k).ent).res.length):=by
  show(match T.call f [] with
   | some k=>some (k,(T.ent (T.key k).ent).modes,(T.ent (T.key k).ent).res.length)
   | none=>none)=_
  rw[hc]
 subst hx
 have hD:=((OK hT n) f [] k _ _ hent).2 x y hn W (fun b=>b<W.heap.size) [] vs vits hV (nM _ _ hnr) hI List.nodup_nil (fun b hb=>(by cases hb)) (fun b hb=>hb) hG
 rcases hD with ⟨_,h2⟩ | ⟨v,w',h1,_⟩
 ·refine h2.mono fun e W' ⟨v,he,hA⟩=>?_
  obtain⟨S',vs',Fr,Fb,e1,e2,e3,e4,e5,e6,e7,e8,e9,e10,e11,e12,_⟩:=hA
  rw[hres]at e2
  have e0:∀ l:List (DV T.G.T),l=[⟨.leaf false .bool,true⟩]→RetsOK (G:=T.G) S' W' (l.take 1) vs' Fr→RetsOK (G:=T.G) S' W' [⟨.leaf false .bool,true⟩] vs' Fr:=fun l h h'=>by subst h;exact h'
  replace e2:=e0 _ hy e2
  obtain⟨v1,vr,F1,F2,g1,g2,g34,g5,g6⟩:=e2
  have g34':RepB S' W' (.leaf false .bool) true v1.cells.toList F1∧Shaped (.leaf false .bool) v1∧_:=g34
  obtain⟨g3,g4,_⟩:=g34'
  subst g5
  subst g1
  have hc1:v1.cells.toList=[.bool true]:=(repE_bool.1 g3).1
  have hv1:v1 = .bool true:=oY hc1 g4
  refine⟨by rw[he,e1];show Ending.returned v1=_;rw[hv1],e10,e11,e12,e9,fun b hb=>e8 b hb (by simp)⟩
 ·exfalso
  rcases hT.call f [] k hc with ⟨hE,hfn,_,_⟩ | hX
  rotate_left
  ·rw[hX.ex]at hex;cases hex
  obtain⟨fn,hf,hbody,_,_,hname⟩:=hE.fn
  rw[hfn]at hf
  have hname' : ¬ fn.name = "runtime.NumGoroutine" := by simpa using hname
  simp[callFunc,hf,hname',hbody]at h1
theorem Qz(hT:TabOK T P){f k:Nat}{ms:List Mode}(hc:T.call f []=some k)(hms:(T.ent (T.key k).ent).modes=ms)(hex:(T.ent (T.key k).ent).ex=false)(hres:(T.ent (T.key k).ent).res.length=1)
  {x:Bs T.G.T (T.Z.inp k)} {y:Bs T.G.T (T.Z.out k)} (hl:T.lim k x=some y) (hy:cL (T.Z.out k) y=[⟨.leaf false .bool,true⟩]) {vs:List Value} {vits:List (PM×BT×Value)} (hV:eO ms vs vits)
  {ds:List (DV T.G.T)} (hx:cL (T.Z.inp k) x=ds) (hI:fe (G:=T.G) (fun b=>b<W.heap.size) W vits ds []) (hG:Laid P T.tabs (fun b=>b<W.heap.size) W) (hnr:kN ms=true:=by rfl) :
  Calls P f vs.toArray W fun e W'=>e = .returned (.bool true)∧Below W.heap.size W W':=by
 subst hms
 exact Qy hT hc hl hex hres hy hV hx hI hG hnr
theorem Um{H:Type}{enc:TypeId×Value→H}{base b0:Nat}{spare:Nat→Bool}{held:Bool}{t:TypeId}{ft:FT}{v:Value}{r:Reach}{x:DataW H}{p:List MemPlace}(hT:TabOK T P)(ht:T.ty t=some ft)(hv:Value.okWide P W r b0 t v)(h:DataW.Trod enc P W base spare held t v x p) :
  ∃ y:J T.G.T ft,oQ (G:=T.G) 40 ft y∧m9 (G:=T.G) (fun b=>b<W.heap.size) W .val (.leaf false ft) v ⟨.leaf false ft,y⟩ []:=by
 obtain⟨fuel,hf⟩:=h
 obtain⟨y,hy⟩:=Un (G:=T.G) (ty:=T.ty) hT.ty fuel t ft _ _ ht hf
 refine⟨y,RepE.fine 40 false ft y _ _ hy,y,rfl,hy,?_,rfl,rfl⟩
 obtain⟨inf,z,hty⟩:=TyOK.of (hT.ty t ft ht)
 have hd:=hty.desc
 cases ft with
 | int k=>obtain⟨n,rfl,_⟩:=WideShapes.okWide_int hd hv;intro cs e;cases e
 | bool=>obtain⟨n,rfl⟩:=WideShapes.okWide_bool hd hv;intro cs e;cases e
 | ptr=>obtain⟨et,hu⟩:=hd;obtain⟨n,rfl⟩:=WideShapes.okWide_pointer hu hv;intro cs e;cases e
 | str=>obtain⟨n,rfl⟩:=WideShapes.okWide_string hd hv;intro cs e;cases e
 | sl e=>obtain⟨et,hu,he⟩:=hd;obtain⟨a,l,c,rfl⟩:=WideShapes.okWide_slice hu hv;intro cs e;cases e
 | nm n=>obtain⟨fs,hu,_⟩:=hd;obtain⟨cs,rfl,_⟩:=WideShapes.okWide_struct hu hv;exact⟨cs,rfl⟩
end
end
section
def mh:List (Nat×FT)→Nat→Option FT
 | [],_=>none
 | (a,b)::l,x=>bif Nat.beq a x then some b else mh l x
theorem Iz:∀ {l:List (Nat×FT)} {t:Nat} {ft:FT},mh l t=some ft→(t,ft)∈l
 | [],t,ft,h=>by cases h
 | (a,b)::l,t,ft,h=>by
  simp only[mh]at h
  cases hb:Nat.beq a t with
  | true=>rw[hb]at h;cases h;rw[← cn hb];exact aH ..
  | false=>rw[hb]at h;exact aI _ (Iz h)
def mj:List Nat→Nat→Bool
 | [],_=>false
 | a::l,t=>Nat.beq a t||mj l t
theorem Ic{P:Program}:∀ {l:List Nat},(l.all fun t=>mf P t)=true→∀ t,mj l t=true→mf P t=true
 | [],_,_,h=>by cases h
 | a::l,h,t,h'=>by
  rw[List.all_cons,aD]at h
  unfold mj at h'
  rw[aY]at h'
  rcases h' with h' | h'
  ·rw[← Nat.eq_of_beq_eq_true h'];exact h.1
  ·exact Ic h.2 t h'
theorem Hg{P:Program}:∀ {l:List Nat},(l.all fun t=>nG P t)=true→∀ t,mj l t=true→nG P t=true
 | [],_,_,h=>by cases h
 | a::l,h,t,h'=>by
  rw[List.all_cons,aD]at h
  unfold mj at h'
  rw[aY]at h'
  rcases h' with h' | h'
  ·rw[← Nat.eq_of_beq_eq_true h'];exact h.1
  ·exact Hg h.2 t h'
theorem Y3{G:Gam}{P:Program}{l:List (Nat×FT)}(h:(l.all fun p=>dh G P (mh l) p.1 p.2)=true):∀ t ft,mh l t=some ft→dh G P (mh l) t ft=true :=
 fun t ft ht=>List.all_eq_true.1 h _ (Iz ht)
abbrev lD:=List ((Nat×List Nat)×Nat)
def sA:lD→Nat→List Nat→Option Nat
 | [],_,_=>none
 | ((f,cs),k)::l,g,ds=>bif Nat.beq f g&&vm cs ds then some k else sA l g ds
def oO(T:Tab)(P:Program)(f k:Nat):Prop :=
 (EntOK T P (T.key k).ent∧(T.ent (T.key k).ent).fn=f∧(T.key k).dirs=[]∧(T.key k).forms=dE 0 (T.ent (T.key k).ent).modes)∨ExtOK T P f k
def lz(T:Tab)(P:Program):lD→Prop
 | []=>True
 | c::l=>oO T P c.1.1 c.2∧lz T P l
theorem Gn{T:Tab}{P:Program}:∀ {l:lD},lz T P l→∀ f cs k,sA l f cs=some k→oO T P f k
 | [],_,f,cs,k,h=>by cases h
 | ((g,ds),k')::l,ha,f,cs,k,h=>by
  simp only[sA]at h
  cases hb:Nat.beq g f&&vm ds cs with
  | true =>
   rw[hb]at h
   cases h
   simp only[aD]at hb
   rw[← cn hb.1]
   exact ha.1
  | false=>rw[hb]at h;exact Gn ha.2 f cs k h
def rD(T:Tab)(e:Nat):Bool :=
 Nat.ble (T.ent e).modes.length (T.ent e).nt&&Nat.beq (T.ent e).results.length (T.ent e).res.length&&(T.ent e).joins.all (fun p=>Nat.beq (num (T.key p.2).dirs) p.1)&&cR 0 (T.ent e).modes (T.ent e).ios && !(T.ent e).ex
theorem IA:∀ {l:List (Nat×Nat)} {p κ:Nat},iV l p=some κ→(p,κ)∈l
 | [],p,κ,h=>by cases h
 | (a,b)::l,p,κ,h=>by
  simp only[iV]at h
  cases hb:Nat.beq a p with
  | true=>rw[hb]at h;cases h;rw[← cn hb];exact aH ..
  | false=>rw[hb]at h;exact aI _ (IA h)
theorem Od{T:Tab}{P:Program}{e:Nat}{f:Func}(hf:P.funcs[(T.ent e).fn]? = some f)(hb:f.body=some (T.ent e).code)(hr:f.results.toList=(T.ent e).results)(hn:f.ntmps=(T.ent e).nt)
  (hname : (f.name == "runtime.NumGoroutine") = false) (hB : rD T e = true) : EntOK T P e := by
 simp only[rD,aD,Bool.not_eq_true']at hB
 obtain⟨⟨⟨⟨h1,h2⟩,h3⟩,h4⟩,h5⟩:=hB
 exact⟨⟨f,hf,hb,hr,hn,hname⟩,aG h1,cn h2,fun p κ h=>cn (List.all_eq_true.1 h3 _ (IA h)),h4,h5⟩
def co(f:Func):Code:=match f.body with
 | some c=>c
 | none=>.skip
def fill(P:Program)(r:EntI):EntI:=match P.funcs[r.fn]? with
 | some f=>{ r with code:=co f,results:=f.results.toList,nt:=f.ntmps }
 | none=>r
def sj(ent:Nat→EntI)(r:KeyI):KeyI:=bif r.dirs.isEmpty&&r.forms.isEmpty then⟨r.ent,[],dE 0 (ent r.ent).modes⟩else r
def vV(P:Program)(f:Nat):Bool:=match P.funcs[f]? with
 | some fn => fn.body.isSome && !(fn.name == "runtime.NumGoroutine")
 | none=>false
theorem Oc{T:Tab}{P:Program}{e:Nat}{r:EntI}(h:T.ent e=fill P r)(hp:vV P r.fn=true)(hB:rD T e=true):EntOK T P e∧(T.ent e).fn=r.fn∧(T.ent e).modes=r.modes:=by
 unfold vV at hp
 unfold fill at h
 cases hf:P.funcs[r.fn]? with
 | none=>rw[hf]at hp;cases hp
 | some f =>
  rw[hf]at hp h
  simp only[aD,Bool.not_eq_true']at hp h
  obtain⟨c,hc⟩:=Option.isSome_iff_exists.1 hp.1
  refine⟨Od (f:=f) (by rw[h];exact hf) ?_ (by rw[h]) (by rw[h]) hp.2 hB,by rw[h],by rw[h]⟩
  rw[h,hc]
  show some c=some (co f)
  unfold co
  rw[hc]
def vz(T:Tab)(P:Program)(raw:Nat→EntI)(fw:Nat→KeyI)(c:(Nat×List Nat)×Nat):Bool :=
 (fw c.2).dirs.isEmpty&&(fw c.2).forms.isEmpty&&Nat.beq (raw (fw c.2).ent).fn c.1.1&&vV P c.1.1&&rD T (fw c.2).ent
theorem Nd{T:Tab}{P:Program}{raw:Nat→EntI}{fw:Nat→KeyI}(hent:∀ e,T.ent e=fill P (raw e))(hkey:∀ k,T.key k=sj raw (fw k)){c:(Nat×List Nat)×Nat}(h:vz T P raw fw c=true):oO T P c.1.1 c.2:=by
 simp only[vz,aD]at h
 obtain⟨⟨⟨⟨h1,h2⟩,h3⟩,h4⟩,h5⟩:=h
 have hk:T.key c.2=⟨(fw c.2).ent,[],dE 0 (raw (fw c.2).ent).modes⟩:=by rw[hkey];unfold sj;rw[h1,h2];rfl
 have h3':=cn h3
 rw[← h3']at h4
 obtain⟨g1,g2,g3⟩:=Oc (hent _) h4 h5
 refine .inl ?_
 rw[hk]
 exact⟨g1,g2.trans h3',rfl,by rw[g3]⟩
theorem FO{T:Tab}{P:Program}{raw:Nat→EntI}{fw:Nat→KeyI}(hent:∀ e,T.ent e=fill P (raw e))(hkey:∀ k,T.key k=sj raw (fw k)):∀ {l:lD},(l.all (vz T P raw fw))=true→lz T P l
 | [],_=>trivial
 | c::l,h=>by
  rw[List.all_cons,aD]at h
  exact⟨Nd hent hkey h.1,FO hent hkey h.2⟩
theorem FN{T:Tab}{P:Program}:∀ {l m:lD},lz T P l→lz T P m→lz T P (l++m)
 | [],m,_,h=>h
 | c::l,m,⟨h1,h2⟩,h=>⟨h1,FN h2 h⟩
theorem leq{T:Tab}{κ:Nat}{x:Bs T.G.T (T.Z.inp κ)}{y:Option (Bs T.G.T (T.Z.out κ))}(h:T.step T.lim κ x=y):T.lim κ x=y:=(Iu T κ x).trans h
abbrev w64 (n:Int):Int:=IntKind.i64.wrap n
abbrev w8 (n:Int):Int:=IntKind.u8.wrap n
end
section
def dN:List Int→Int→Int
 | [],_=>-1
 | b::l,c=>if b=c then 0 else if dN l c = -1 then -1 else dN l c+1
theorem P7(l:List Int)(c:Int):-1≤dN l c∧dN l c<(l.length:Int):=by
 induction l with
 | nil=>exact⟨Int.le_refl _,by show(-1:Int)<0;omega⟩
 | cons b l ih =>
  unfold dN
  rw[aW]
  split
  ·omega
  ·split
   ·omega
   ·omega
theorem P8(l:List UInt8)(c:Int)(h0:0≤c)(h1:c≤255):Lib.indexByte l c.toNat.toUInt8=dN (l.map fun b=>(b.toNat:Int)) c:=by
 induction l with
 | nil=>rfl
 | cons b l ih =>
  rw[bj]
  unfold Lib.indexByte dN
  have e:(b==c.toNat.toUInt8)=true↔((b.toNat:Int)=c):=by
   rw[beq_iff_eq,← UInt8.toNat_inj]
   have:c.toNat.toUInt8.toNat=c.toNat:=by simp[Nat.toUInt8];omega
   rw[this];omega
  by_cases hb:(b.toNat:Int)=c
  ·rw[bw (e.2 hb),bw hb]
  ·rw[bz (fun h=>hb (e.1 h)),bz hb,ih]
   by_cases hi:dN (l.map fun b=>(b.toNat:Int)) c = -1
   ·rw[bw hi,bw (by rw[hi];rfl)]
   ·rw[bz hi,bz (by simpa using hi)]
def eh(a b:List Int):Int:=if ltS a b=true then -1 else if ltS b a=true then 1 else 0
theorem Gw:∀ (l m:List UInt8),Lib.compareBytes l m=eh (l.map fun b=>(b.toNat:Int)) (m.map fun b=>(b.toNat:Int))
 | [],[]=>rfl
 | [],_::_=>rfl
 | _::_,[]=>rfl
 | a::l,b::m=>by
  have ih:=Gw l m
  unfold eh at ih
  unfold Lib.compareBytes eh
  simp only[bj,ltS]
  by_cases h1:a<b
  ·have h1':(a.toNat:Int)<(b.toNat:Int):=by have:=UInt8.lt_iff_toNat_lt.1 h1;omega
   rw[bw h1,bw (by rw[decide_eq_true h1',Bool.true_or])]
  ·by_cases h2:b<a
   ·have h2':(b.toNat:Int)<(a.toNat:Int):=by have:=UInt8.lt_iff_toNat_lt.1 h2;omega
    have n1:¬ (a.toNat:Int)<(b.toNat:Int):=by omega
    have n2:¬ (a.toNat:Int)=(b.toNat:Int):=by omega
    rw[bz h1,bw h2,bz (by rw[decide_eq_false n1,decide_eq_false n2,Bool.false_and,Bool.false_or];exact Bool.false_ne_true),bw (by rw[decide_eq_true h2',Bool.true_or])]
   ·have e:(a.toNat:Int)=(b.toNat:Int):=by
     have g1:¬ a.toNat<b.toNat:=fun h=>h1 (UInt8.lt_iff_toNat_lt.2 h)
     have g2:¬ b.toNat<a.toNat:=fun h=>h2 (UInt8.lt_iff_toNat_lt.2 h)
     omega
    rw[bz h1,bz h2,ih,e]
    simp only[Int.lt_irrefl,decide_false,Bool.false_or,decide_true,Bool.true_and]
theorem Ns(a b:List Int):-1≤eh a b∧eh a b≤1:=by
 unfold eh;split
 ·omega
 ·split <;> omega
section
variable {T:Tab} {P:Program} {w:World} {S:Nat→Prop}
theorem Qb{f k:Nat}{fn:Func}(hex:(T.ent (T.key k).ent).ex=true)(hms:(T.ent (T.key k).ent).modes=[.val (.leaf false .str),.val (.leaf false (.int .u8))])(hres:(T.ent (T.key k).ent).res.length=1)
  (hinp:T.Z.inp k=fV [.val (.leaf false .str),.val (.leaf false (.int .u8))])
  (hext:∀ x y,T.ext k x=some y→∃ (s:List Int) (c:Int),cL (T.Z.inp k) x=[⟨.leaf false .str,s⟩,⟨.leaf false (.int .u8),c⟩]∧cL (T.Z.out k) y=[⟨.leaf false (.int .i64),dN s c⟩])
  (hf : P.funcs[f]? = some fn) (hname : (fn.name == "runtime.NumGoroutine") = false) (hb : fn.body.isNone = true) (hn : Extern.findNext fn = none) (he : Extern.find fn = some Extern.BytealgIndexByte.indexByte) : ExtOK T P f k := by
 refine⟨hex,by rw[hms];exact hinp,fun x y hxy w S0 F0 vs vits hV _ hI hnd hF hS _=>?_⟩
 obtain⟨s,c,hx,hy⟩:=hext x y hxy
 rw[hms]at hV
 obtain⟨v1,vs1,i1,i2,rfl,rfl,h1,v2,vs2,i3,i4,rfl,rfl,h2,h3,h4⟩:=hV
 have h1':i1=[(.val,.leaf false .str,v1)]:=h1
 have h2':i3=[(.val,.leaf false (.int .u8),v2)]:=h2
 subst h1';subst h2';subst h3;subst h4
 rw[hx]at hI
 obtain⟨d1,ds1,F1,F2,e1,e2,g1,d2,ds2,F3,F4,e3,e4,g2,g3⟩:=hI
 obtain⟨rfl,rfl⟩:=aP e1
 obtain⟨rfl,rfl⟩:=aP e3
 obtain⟨x1,q1,r1,s1,_,rfl⟩:=g1
 obtain⟨x2,q2,r2,s2,_,rfl⟩:=g2
 cases q1
 cases q2
 obtain⟨_,g4⟩:=g3
 have g4':F4=[]:=g4
 subst g4'
 replace e4:F2=[]:=e4
 subst e4
 replace e2:F0=[]:=e2
 subst e2
 obtain⟨b,hb1,hb2,_,hb4⟩:=repE_str.1 r1
 have hv1:v1 = .string b:=oY hb1 s1
 have hr2:=repE_int.1 r2
 have hv2:v2 = .int .u8 c:=oY hr2.1 s2
 subst hv1;subst hv2
 have hc:0≤c∧c≤255:=by have:=hr2.2.1;rw[IntKind.wrap_u8]at this;omega
 have hrun:(callFunc f #[.string b,.int .u8 c]).run P w = .ok (.value (.int .i64 (dN s c))) w:=by
  rw[run_callFunc_extern hf hname hb hn he,Lib.run_indexByteString]
  simp only[Result.andThen]
  rw[P8 _ _ hc.1 hc.2,hb2]
  rfl
 have hbd:=P7 s c
 have hl:(s.length:Int)≤9223372036854775807:=by rw[hb2,fR];omega
 have hwr:IntKind.i64.wrap (dN s c)=dN s c:=by rw[IntKind.wrap_i64];omega
 have e1:∀ l:List (DV T.G.T),l=[⟨.leaf false (.int .i64),dN s c⟩]→l.drop 1=[]:=fun l h=>by subst h;rfl
 refine .inr ⟨_,w,hrun,S0,[.int .i64 (dN s c)],[],[],rfl,?_,(by rw[hres];exact⟨e1 _ hy,rfl⟩),List.nodup_nil,fun b hb=>(by cases hb),fun b hb=>hb,fun b hb=>⟨hS b hb,.inl hb⟩,fun _ _ _=>rfl,aK _,rfl,rfl,rfl,by rw[hms];trivial⟩
 rw[hres]
 have e0:∀ l:List (DV T.G.T),l=[⟨.leaf false (.int .i64),dN s c⟩]→RetsOK (G:=T.G) S0 w (l.take 1) [.int .i64 (dN s c)] []:=fun l h=>by
  subst h
  exact⟨_,[],[],[],rfl,rfl,(show RepB S0 w (.leaf false (.int .i64)) (dN s c) [.int .i64 (dN s c)] []∧Shaped (.leaf false (.int .i64)) (.int .i64 (dN s c))∧(iu (.leaf false (.int .i64))=true→Value.int .i64 (dN s c) = .nilIface) from⟨repE_int.2 ⟨rfl,hwr,rfl⟩,(by intro cs h;cases h),fun h=>by cases h⟩),rfl,rfl⟩
 exact e0 _ hy
theorem Nt{f k:Nat}{fn:Func}(hex:(T.ent (T.key k).ent).ex=true)(hms:(T.ent (T.key k).ent).modes=[.val (.leaf false .str),.val (.leaf false .str)])(hres:(T.ent (T.key k).ent).res.length=1)
  (hinp:T.Z.inp k=fV [.val (.leaf false .str),.val (.leaf false .str)])
  (hext:∀ x y,T.ext k x=some y→∃ (s:List Int) (c:List Int),cL (T.Z.inp k) x=[⟨.leaf false .str,s⟩,⟨.leaf false .str,c⟩]∧cL (T.Z.out k) y=[⟨.leaf false (.int .i64),eh s c⟩])
  (hf : P.funcs[f]? = some fn) (hname : (fn.name == "runtime.NumGoroutine") = false) (hb : fn.body.isNone = true) (hn : Extern.findNext fn = none) (he : Extern.find fn = some Extern.BytealgCompare.compare) : ExtOK T P f k := by
 refine⟨hex,by rw[hms];exact hinp,fun x y hxy w S0 F0 vs vits hV _ hI hnd hF hS _=>?_⟩
 obtain⟨s,c,hx,hy⟩:=hext x y hxy
 rw[hms]at hV
 obtain⟨v1,vs1,i1,i2,rfl,rfl,h1,v2,vs2,i3,i4,rfl,rfl,h2,h3,h4⟩:=hV
 have h1':i1=[(.val,.leaf false .str,v1)]:=h1
 have h2':i3=[(.val,.leaf false .str,v2)]:=h2
 subst h1';subst h2';subst h3;subst h4
 rw[hx]at hI
 obtain⟨d1,ds1,F1,F2,e1,e2,g1,d2,ds2,F3,F4,e3,e4,g2,g3⟩:=hI
 obtain⟨rfl,rfl⟩:=aP e1
 obtain⟨rfl,rfl⟩:=aP e3
 obtain⟨x1,q1,r1,s1,_,rfl⟩:=g1
 obtain⟨x2,q2,r2,s2,_,rfl⟩:=g2
 cases q1
 cases q2
 obtain⟨_,g4⟩:=g3
 have g4':F4=[]:=g4
 subst g4'
 replace e4:F2=[]:=e4
 subst e4
 replace e2:F0=[]:=e2
 subst e2
 obtain⟨b,hb1,hb2,_,hb4⟩:=repE_str.1 r1
 have hv1:v1 = .string b:=oY hb1 s1
 obtain⟨c',hc1,hc2,_,hc4⟩:=repE_str.1 r2
 have hv2:v2 = .string c':=oY hc1 s2
 subst hv1;subst hv2
 have hrun:(callFunc f #[.string b,.string c']).run P w = .ok (.value (.int .i64 (eh s c))) w:=by
  rw[run_callFunc_extern hf hname hb hn he,Lib.run_compareString]
  simp only[Result.andThen]
  rw[Gw,hb2,hc2]
  rfl
 have hbd:=Ns s c
 have hwr:IntKind.i64.wrap (eh s c)=eh s c:=by rw[IntKind.wrap_i64];omega
 have e1:∀ l:List (DV T.G.T),l=[⟨.leaf false (.int .i64),eh s c⟩]→l.drop 1=[]:=fun l h=>by subst h;rfl
 refine .inr ⟨_,w,hrun,S0,[.int .i64 (eh s c)],[],[],rfl,?_,(by rw[hres];exact⟨e1 _ hy,rfl⟩),List.nodup_nil,fun b hb=>(by cases hb),fun b hb=>hb,fun b hb=>⟨hS b hb,.inl hb⟩,fun _ _ _=>rfl,aK _,rfl,rfl,rfl,by rw[hms];trivial⟩
 rw[hres]
 have e0:∀ l:List (DV T.G.T),l=[⟨.leaf false (.int .i64),eh s c⟩]→RetsOK (G:=T.G) S0 w (l.take 1) [.int .i64 (eh s c)] []:=fun l h=>by
  subst h
  exact⟨_,[],[],[],rfl,rfl,(show RepB S0 w (.leaf false (.int .i64)) (eh s c) [.int .i64 (eh s c)] []∧Shaped (.leaf false (.int .i64)) (.int .i64 (eh s c))∧(iu (.leaf false (.int .i64))=true→Value.int .i64 (eh s c) = .nilIface) from⟨repE_int.2 ⟨rfl,hwr,rfl⟩,(by intro cs h;cases h),fun h=>by cases h⟩),rfl,rfl⟩
 exact e0 _ hy
end
end
section
section
variable {T:Tab} {P:Program}
end
end
section
section
variable {G:Gam} {S:Nat→Prop} {w:World}
end
section
variable {T:Tab} {P:Program}
end
end
section
def dZ:List Int→List Int→Int
 | [],t=>if t.isEmpty=true then 0 else -1
 | b::l,t=>if t.isPrefixOf (b::l)=true then 0 else if dZ l t = -1 then -1 else dZ l t+1
theorem sf(l t:List Int):-1≤dZ l t∧dZ l t≤(l.length:Int):=by
 induction l with
 | nil=>unfold dZ;split <;> simp
 | cons b l ih =>
  unfold dZ
  rw[aW]
  split
  ·omega
  ·split <;> omega
section
variable {T:Tab} {P:Program} {w:World} {S:Nat→Prop}
end
end
section
def me{α:Type}(l:List α)(i:Nat)(l2:List α):List α:=l.take i++(l2++l.drop i)
section
variable (P:Program) (f:FuncId)
end
section
variable {T:Tab} {P:Program}
end
end
end Go.Proofs.YtemajhlhgphhjaaGreatDoor.E
