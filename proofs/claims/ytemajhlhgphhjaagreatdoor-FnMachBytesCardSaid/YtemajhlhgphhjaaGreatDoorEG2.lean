/- The engine (operations,one by one). No condition. -/
import Derived.Test.YtemajhlhgphhjaaGreatDoorEG1
import Derived.Laws.BitsLemmas
import Derived.Laws.Bits64
import Derived.Laws.BitsAllLaws
import Derived.Laws.Strings
import Derived.Laws.Small
import Derived.Lib.SliceRun
import Derived.Laws.Slices
import Derived.Laws.IdiomStrings
namespace Go.Proofs.YtemajhlhgphhjaaGreatDoor.E
set_option linter.unusedVariables false
set_option linter.defProp false
section
def aK:=@Nat.le_refl
def aO:=@List.mem_cons
def aU:=@List.length_take
def aV:=@List.length_drop
def bj:=@List.map_cons
def bn:=@List.length_map
section run
variable {Z:Sig} {F:cr Z} {α β:Type}
def M.run(F:cr Z)(m:M Z α)(σ:St Z.G):Option (α×St Z.G):=m.go F σ fun a σ=>some (a,σ)
theorem M.go_eq{ρ:Type}:∀ (m:M Z α) (σ:St Z.G) (K:α→St Z.G→Option ρ),m.go F σ K=(m.run F σ).bind fun x=>K x.1 x.2
 | .ret a,σ,K=>rfl
 | .fail,σ,K=>rfl
 | .getP t k,σ,K=>M.go_eq (k (σ.pin t)) σ K
 | .setP t p k,σ,K=>M.go_eq k _ K
 | .getS s k,σ,K=>M.go_eq (k (σ.slot s)) σ K
 | .setS s x k,σ,K=>M.go_eq k _ K
 | .br b k,σ,K=>by
  cases b
  ·exact M.go_eq (k false) σ K
  ·exact M.go_eq (k true) σ K
 | .chk c h k,σ,K=>by
  show(@ite _ c h (k.go F σ K) none)=(@ite _ c h (k.go F σ fun a σ=>some (a,σ)) none).bind _
  by_cases hc:c
  ·rw[bw hc,bw hc];exact M.go_eq k σ K
  ·rw[bz hc,bz hc];rfl
 | .call f x k,σ,K=>by
  show((F f x).bind fun y=>(k y).go F σ K)=(((F f x).bind fun y=>(k y).go F σ fun a σ=>some (a,σ))).bind _
  cases F f x with
  | none=>rfl
  | some y=>exact M.go_eq (k y) σ K
theorem M.bind_go{ρ:Type}:∀ (m:M Z α) (f:α→M Z β) (σ:St Z.G) (K:β→St Z.G→Option ρ),(m.bind f).go F σ K=m.go F σ fun a σ=>(f a).go F σ K
 | .ret a,f,σ,K=>rfl
 | .fail,f,σ,K=>rfl
 | .getP t k,f,σ,K=>M.bind_go (k (σ.pin t)) f σ K
 | .setP t p k,f,σ,K=>M.bind_go k f _ K
 | .getS s k,f,σ,K=>M.bind_go (k (σ.slot s)) f σ K
 | .setS s x k,f,σ,K=>M.bind_go k f _ K
 | .br b k,f,σ,K=>by
  cases b
  ·exact M.bind_go (k false) f σ K
  ·exact M.bind_go (k true) f σ K
 | .chk c h k,f,σ,K=>by
  show(@ite _ c h ((k.bind f).go F σ K) none)=(@ite _ c h (k.go F σ _) none)
  by_cases hc:c
  ·rw[bw hc,bw hc];exact M.bind_go k f σ K
  ·rw[bz hc,bz hc]
 | .call g x k,f,σ,K=>by
  show((F g x).bind fun y=>((k y).bind f).go F σ K)=((F g x).bind fun y=>(k y).go F σ _)
  cases F g x with
  | none=>rfl
  | some y=>exact M.bind_go (k y) f σ K
theorem M.run_bind(m:M Z α)(f:α→M Z β)(σ:St Z.G):(m.bind f).run F σ=(m.run F σ).bind fun x=>(f x.1).run F x.2:=by
 unfold M.run
 rw[M.bind_go,M.go_eq]
 rfl
theorem az{m:M Z α}{f:α→M Z β}{σ σ2:St Z.G}{b:β}(h:(m.bind f).run F σ=some (b,σ2)):∃ a σ1,m.run F σ=some (a,σ1)∧(f a).run F σ1=some (b,σ2):=by
 rw[M.run_bind]at h
 cases hm:m.run F σ with
 | none=>rw[hm]at h;cases h
 | some x=>rw[hm]at h;exact⟨x.1,x.2,rfl,h⟩
theorem aB{a b:α}{σ σ':St Z.G}(h:(M.ret a:M Z α).run F σ=some (b,σ')):b=a∧σ'=σ:=by
 cases h;exact⟨rfl,rfl⟩
theorem aA{b:α}{σ σ':St Z.G}{p:Prop}(h:(M.fail:M Z α).run F σ=some (b,σ')):p:=by cases h
theorem aC{c:Bool}{k:M Z α}{b:α}{σ σ':St Z.G}(h:(E.need c k).run F σ=some (b,σ')):c=true∧k.run F σ=some (b,σ'):=by
 cases c with
 | true=>exact⟨rfl,h⟩
 | false=>exact aA h
theorem M.run_lift{o:Option α}{b:α}{σ σ':St Z.G}(h:(iw o:M Z α).run F σ=some (b,σ')):o=some b∧σ'=σ:=by
 cases o with
 | none=>exact aA h
 | some a=>obtain⟨rfl,rfl⟩:=aB h;exact⟨rfl,rfl⟩
theorem M.run_chk{c:Prop}{hc:Decidable c}{k:M Z α}{b:α}{σ σ':St Z.G}(h:(M.chk c hc k).run F σ=some (b,σ')):c∧k.run F σ=some (b,σ'):=by
 have h':(@ite _ c hc (k.run F σ) none)=some (b,σ'):=h
 by_cases h0:c
 ·rw[bw h0]at h';exact⟨h0,h'⟩
 ·rw[bz h0]at h';cases h'
theorem M.run_getP{t:Nat}{k:Pin Z.G→M Z α}{σ:St Z.G}:(M.getP t k).run F σ=(k (σ.pin t)).run F σ:=rfl
theorem M.run_setP{t:Nat}{p:Pin Z.G}{k:M Z α}{σ:St Z.G}:(M.setP t p k).run F σ=k.run F (σ.setP t p):=rfl
theorem M.run_getS{s:Nat}{k:Slot Z.G→M Z α}{σ:St Z.G}:(M.getS s k).run F σ=(k (σ.slot s)).run F σ:=rfl
theorem M.run_setS{s:Nat}{x:Slot Z.G}{k:M Z α}{σ:St Z.G}:(M.setS s x k).run F σ=k.run F (σ.setS s x):=rfl
end run
structure Loose (C:Ctx) (w:World) (S:Nat→Prop) (F:Nat→List Nat) (L:List Nat):Prop where
 nd:L.Nodup
 apart:∀ s,∀ b∈F s,b∉L
 notS:∀ b∈L,¬ S b
 bnd:∀ b∈L,b<w.heap.size
 fromF:∀ b∈L,b∈C.F0∨C.w0.heap.size≤b
theorem Loose.nil{C:Ctx}{w:World}{S:Nat→Prop}{F:Nat→List Nat}:Loose C w S F [] :=
 ⟨List.nodup_nil,fun _ _ _ h=>(by cases h),fun _ h=>(by cases h),fun _ h=>(by cases h),fun _ h=>(by cases h)⟩
theorem Loose.sub{C:Ctx}{w:World}{S:Nat→Prop}{F:Nat→List Nat}{L L':List Nat}(h:Loose C w S F L)(hs:L'.Sublist L):Loose C w S F L' :=
 ⟨h.nd.sublist hs,fun s b hb hl=>h.apart s b hb (hs.subset hl),fun b hb=>h.notS b (hs.subset hb),fun b hb=>h.bnd b (hs.subset hb),fun b hb=>h.fromF b (hs.subset hb)⟩
section
variable {G:Gam} {C:Ctx} {σ:St G} {a:Act} {w:World} {S:Nat→Prop} {F:Nat→List Nat} {V:Nat→Value} {L:List Nat}
structure Grows (w w':World):Prop where
 old:∀ b,b<w.heap.size→w'.heap[b]? = w.heap[b]?
 size:w.heap.size≤w'.heap.size
 os:w'.os=w.os
 tape:w'.tape=w.tape
 output:w'.output=w.output
theorem Grows.refl(w:World):Grows w w:=⟨fun _ _=>rfl,aK _,rfl,rfl,rfl⟩
theorem Grows.trans{w w' w'':World}(h:Grows w w')(h':Grows w' w''):Grows w w'' :=
 ⟨fun b hb=>(h'.old b (Nat.lt_of_lt_of_le hb h.size)).trans (h.old b hb),Nat.le_trans h.size h'.size,h'.os.trans h.os,h'.tape.trans h.tape,h'.output.trans h.output⟩
theorem Grows.drew(w:World):Grows w w.drew:=⟨fun _ _=>rfl,aK _,rfl,rfl,rfl⟩
theorem Grows.alloc(w:World)(o:Obj):Grows w (w.alloc o):=⟨fun b hb=>heap_alloc_old w o b hb,by simp,rfl,rfl,rfl⟩
theorem Ok.grow'(h:Ok C σ a w S F V){w':World}(hg:Grows w w'):Ok C σ a w' S F V:=by
 have hS:∀ b,S b→S b∧w'.heap[b]? = w.heap[b]?:=fun b hb=>⟨hb,hg.old b (h.bndS b hb)⟩
 have hF:∀ s,∀ b∈F s,w'.heap[b]? = w.heap[b]?:=fun s b hb=>hg.old b (h.bnd s b hb)
 have ht:∀ s,kg w w' (σ.slot s) (σ.slot s) (V s) (V s) (F s):=fun s=>.inl ⟨rfl,rfl,hF s⟩
 refine { h with pins:=fun t=>iA h.slots hS ht _ _ (h.pins t),slots:=fun s=>qF h.slots hS ht rfl rfl (hF s),bnd:=fun s b hb=>Nat.lt_of_lt_of_le (h.bnd s b hb) hg.size,bndS:=fun b hb=>Nat.lt_of_lt_of_le (h.bndS b hb) hg.size,keep:=fun b h1 h2=>(hg.old b (Nat.lt_of_lt_of_le h1 h.grow)).trans (h.keep b h1 h2),grow:=Nat.le_trans h.grow hg.size,os:=hg.os.trans h.os,tape:=hg.tape.trans h.tape,output:=hg.output.trans h.output,orig:=fun s i h1 h2 h3 cs ad h4=>?_ }
 refine h.orig s i h1 h2 h3 cs ad ?_
 unfold Root at h4 ⊢
 rw[bw h2]at h4 ⊢
 obtain⟨b,c,E',k1,k2,k3,k4⟩:=h4
 refine⟨b,c,E',k1,?_,k3,k4⟩
 have hs:=h.slots s
 unfold cO at hs
 cases hc:(σ.slot s).cont with
 | dead=>exact absurd hc h3
 | data d =>
  rw[hc]at hs;simp only at hs;rw[bw h2]at hs
  obtain⟨b',c',E'',F'',q1,q2,q3,q4⟩:=hs
  rw[k1]at q1;cases q1
  rw[← hF s b (by rw[q3];exact aH ..)];exact k2
 | word p =>
  rw[hc]at hs;simp only at hs
  obtain⟨q0,b',c',E'',cv,q1,q2,q3,q4⟩:=hs
  rw[k1]at q1;cases q1
  rw[← hF s b (by rw[q3];exact aH ..)];exact k2
 | frz d=>rw[hc]at hs;exact absurd (h2.symm.trans hs.1) (by decide)
theorem Loose.grow(h:Loose C w S F L){w':World}(hg:Grows w w'):Loose C w' S F L :=
 { h with bnd:=fun b hb=>Nat.lt_of_lt_of_le (h.bnd b hb) hg.size }
theorem RepB.grow{b:BT}{x:B G.T b}{cs:List Value}{Fd:List Nat}(h:RepB S w b x cs Fd)(hbS:∀ b,S b→b<w.heap.size)(hbF:∀ b∈Fd,b<w.heap.size){w':World}(hg:Grows w w'):RepB S w' b x cs Fd :=
 RepB.frame (fun b hb=>⟨hb,hg.old b (hbS b hb)⟩) h fun b hb=>hg.old b (hbF b hb)
theorem Ok.make(h:Ok C σ a w S F V){F':List Nat}(hL:Loose C w S F (F'++L)){s:Nat}(hs:16*C.np≤s){x':Slot G}(hgen:x'.gen=(σ.slot s).gen+1)(hborn:x'.born=(σ.slot s).gen+1){v':Value}
  (hslot:cO S w (upd σ.slot s x') (upd V s v') x' v' F') (horig:∀ i,x'.orig=some i→x'.box=true→x'.cont ≠ .dead→∀ cs ad,Root w x' v' cs ad→cs=(C.V0 (16*i)).cells.toList) :
  Ok C (σ.setS s x') a w S (upd F s F') (upd V s v')∧Loose C w S (upd F s F') L:=by
 have hn:=aF.1 hL.nd
 refine⟨h.turn (fun b hb=>⟨hb,rfl⟩) (fun _ _ _ _=>rfl) (by omega) (.inl (by omega)) (by omega) hslot hn.1 (fun b hb=>hL.notS b (ax _ hb)) (fun s' hne b hb=>⟨fun hb'=>hL.apart s' b hb (ax _ hb'),h.notS s' b hb⟩)
  (fun b hb=>hL.bnd b (ax _ hb)) h.bndS (aK _) (fun _ _ _=>rfl) (fun b hb=>hL.fromF b (ax _ hb)) h.fromS rfl rfl rfl (fun hlt=>absurd hlt (by omega)) horig,?_⟩
 refine⟨hn.2.1,fun s' b hb hb'=>?_,fun b hb=>hL.notS b (ay _ hb),fun b hb=>hL.bnd b (ay _ hb),fun b hb=>hL.fromF b (ay _ hb)⟩
 by_cases e:s'=s
 ·subst e;rw[ck]at hb;exact hn.2.2 b hb b hb' rfl
 ·rw[cj _ _ e]at hb;exact hL.apart s' b hb (ay _ hb')
theorem lJ:∀ {b:BT},b.cp G=true→b.whole=true
 | .leaf _ _,_=>rfl
 | .un,_=>rfl
 | .pr a b,h=>by simp only[BT.cp,aD]at h;simp only[BT.whole,aD];exact⟨lJ h.1,lJ h.2⟩
 | .hole _,h=>by cases h
 | .fn _,_=>rfl
end
section
variable {E:Env} {Fa:cr E.Z} {C:Ctx} {σ σ1:St E.G} {a:Act} {w:World} {S:Nat→Prop} {F:Nat→List Nat} {V:Nat→Value} {L:List Nat}
theorem NK{v:Value}{sl:Nat→Slot E.G}:b9 S w sl V (vG v) v:=by
 unfold vG
 split
 ·rename_i k n
  split
  ·rename_i hk;exact⟨repE_int.2 ⟨rfl,hk,rfl⟩,fun cs h=>(by cases h),rfl⟩
  ·trivial
 ·exact⟨repE_bool.2 ⟨rfl,rfl⟩,fun cs h=>(by cases h),rfl⟩
 ·rename_i s
  split
  ·rename_i hs;exact⟨repE_str.2 ⟨s,rfl,rfl,rfl,Nat.le_trans hs (by decide)⟩,fun cs h=>(by cases h),rfl⟩
  ·trivial
 ·rfl
 ·rfl
 ·trivial
theorem cY(h:Ok C σ a w S F V){x:Operand}{p:bX E}(hr:(opd x).run Fa σ=some (p,σ1)):σ1=σ∧b9 S w σ.slot V p (a.eval x):=by
 cases x with
 | tmp t=>obtain⟨rfl,rfl⟩:=aB (F:=Fa) hr;exact⟨rfl,h.pins t⟩
 | const v=>obtain⟨rfl,rfl⟩:=aB (F:=Fa) hr;exact⟨rfl,NK⟩
 | func f=>obtain⟨rfl,rfl⟩:=aB (F:=Fa) hr;exact⟨rfl,#[],rfl,rfl⟩
 | global g=>exact aA (F:=Fa) hr
theorem p9(h:Ok C σ a w S F V)(xs:List Operand):∀ (ps:List (bX E)) (σ1:St E.G),(mm xs).run Fa σ=some (ps,σ1)→σ1=σ∧PinsOK S w σ.slot V ps (xs.map a.eval):=by
 induction xs with
 | nil=>intro ps σ1 hr;obtain⟨rfl,rfl⟩:=aB (F:=Fa) hr;exact⟨rfl,rfl⟩
 | cons x xs ih =>
  intro ps σ1 hr
  obtain⟨p,σ',h1,h2⟩:=az hr
  obtain⟨rfl,h3⟩:=cY h h1
  obtain⟨ps',σ',h4,h5⟩:=az h2
  obtain⟨rfl,h6⟩:=ih _ _ h4
  obtain⟨rfl,rfl⟩:=aB (F:=Fa) h5
  exact⟨rfl,_,_,rfl,h3,h6⟩
theorem Ul(h:Ok C σ a w S F V){x:Option Operand}{p:Option (bX E)}(hr:(sD x).run Fa σ=some (p,σ1)):σ1=σ∧((x=none∧p=none)∨∃ y q,x=some y∧p=some q∧b9 S w σ.slot V q (a.eval y)):=by
 cases x with
 | none=>obtain⟨rfl,rfl⟩:=aB (F:=Fa) hr;exact⟨rfl,.inl ⟨rfl,rfl⟩⟩
 | some y =>
  obtain⟨p',σ',h1,h2⟩:=az hr
  obtain⟨rfl,h3⟩:=cY h h1
  obtain⟨rfl,rfl⟩:=aB (F:=Fa) h2
  exact⟨rfl,.inr ⟨y,p',rfl,rfl,h3⟩⟩
def Pin.slotOf{G:Gam}:Pin G→Option Nat
 | .ali s _ _=>some s
 | .view s _ _ _ _=>some s
 | _=>none
theorem nb(h:Ok C σ a w S F V){s:Nat}{p:cT}{g:Nat}{v:Value}(hp:b9 S w σ.slot V (.ali s p g) v)(hc:dK (σ.slot s) p g=true){d:DV E.G.T}(hd:(σ.slot s).cont = .data d){d':DV E.G.T}(hg:get E.G p d=some d') :
  ∃ cs ad cs' ad' F',Root w (σ.slot s) (V s) cs ad∧RepB S w d.b d.x cs F'∧F'.Sublist (F s)∧F'.Nodup∧loc w p d cs ad=some (d',cs',ad')∧v.cells.toList=cs'∧Shaped d'.b v:=by
 obtain⟨cs,ad,F',k1,k2,k3⟩:=mv (h.slots s) hd
 have hnd:F'.Nodup:=(h.nd s).sublist k3
 obtain⟨h1,h2,h3⟩:=hp
 cases p with
 | nil =>
  obtain rfl:=aR hg
  unfold dK at hc
  simp only at hc
  cases hb:(σ.slot s).box with
  | true =>
   rw[hb]at hc
   obtain⟨d0,cs0,ad0,d1,cs1,ad1,q1,q2,q3,q4,q5⟩:=h3 (cn hc)
   rw[hd]at q1
   cases q1
   obtain⟨rfl,rfl⟩:=k1.eq q2
   simp only[loc,Option.some.injEq,Prod.mk.injEq]at q3
   obtain⟨rfl,rfl,rfl⟩:=q3
   exact⟨_,_,_,_,F',k1,k2,k3,hnd,rfl,q4,q5⟩
  | false =>
   rw[hb]at hc
   have hv:=h2 rfl hb (aG hc)
   subst hv
   have hs:=h.slots s
   unfold cO at hs
   rw[hd]at hs
   simp only at hs
   rw[hb,bz (by decide)]at hs
   unfold Root at k1
   rw[hb,bz (by decide)]at k1
   obtain⟨rfl,rfl⟩:=k1
   exact⟨_,none,_,none,F',by unfold Root;rw[hb,bz (by decide)];exact⟨rfl,rfl⟩,k2,k3,hnd,rfl,rfl,hs.2⟩
 | cons st p =>
  obtain⟨d0,cs0,ad0,d1,cs1,ad1,q1,q2,q3,q4,q5⟩:=h3 (cn hc)
  rw[hd]at q1
  cases q1
  obtain⟨rfl,rfl⟩:=k1.eq q2
  obtain⟨Fa',Fc,Fb,r1,r2,r3,r4⟩:=gU _ _ _ _ _ _ _ _ q3 k2 hnd
  rw[hg]at r3
  cases r3
  exact⟨_,_,_,_,F',k1,k2,k3,hnd,q3,q4,q5⟩
end
end
section
theorem RepL.split{α:Type}{R:α→List Value→List Nat→Prop}{n:Nat}(hr:∀ x c G,R x c G→c.length=n):∀ (k:Nat) (xs:List α) (cs:List Value) (F:List Nat),RepL R xs cs F →
  ∃ F1 F2,F=F1++F2∧RepL R (xs.take k) (cs.take (k*n)) F1∧RepL R (xs.drop k) (cs.drop (k*n)) F2
 | 0,xs,cs,F,h=>⟨[],F,rfl,by simp[RepL],by simpa using h⟩
 | k+1,[],cs,F,h=>⟨[],[],by simp[h.2],by simp[RepL,h.1],by simp[RepL,h.1]⟩
 | k+1,x::xs,cs,F,⟨c1,c2,F1,F2,h1,h2,h3,h4⟩=>by
  obtain⟨G1,G2,e1,e2,e3⟩:=RepL.split hr k xs c2 F2 h4
  have hl:=hr _ _ _ h3
  have hk:(k+1)*n=c1.length+k*n:=by rw[hl,Nat.add_mul];omega
  refine⟨F1++G1,G2,by rw[h2,e1,List.append_assoc],⟨c1,c2.take (k*n),F1,G1,?_,rfl,h3,e2⟩,?_⟩
  ·rw[h1,hk,List.take_length_add_append]
  ·rw[h1,hk,List.drop_length_add_append];exact e3
section
variable {G:Gam} {S S':Nat→Prop} {w:World}
theorem Vd{e:FT}{l:List (J G.T e)}{cs:List Value}{Fs:List Nat}(h:RepE S w true (.sl e) l cs Fs)(hS:∀ b,S b→S' b)(hF:∀ b∈Fs,S' b){lo hi:Nat}(h1:lo≤hi)(h2:hi≤l.length){v:Value}
  (hv:(cs=[.slice none 0 0]∧v = .slice none 0 0)∨∃ b n cap off cap',cs=[.slice (some ⟨b,0,none⟩) n cap]∧v = .slice (some ⟨b,off,none⟩) (hi-lo) cap'∧hi-lo≤cap'∧(off=lo*e.sz G.sz∨(off=0∧lo=hi))) :
  RepE S' w false (.sl e) ((l.drop lo).take (hi-lo)) [v] []:=by
 rcases repE_slT.1 h with ⟨rfl,rfl,_⟩ | ⟨b,off,cap,c,E,fz,F',rfl,q2,q3,q4,q5⟩
 ·rcases hv with ⟨_,rfl⟩ | ⟨b,n,cap,off,cap',hc,_⟩
  ·exact repE_sl.2 (.inl ⟨lM _,by simp,rfl⟩)
  ·cases hc
 ·rw[bw rfl]at q5
  obtain⟨rfl,hfz,hsz,hcap,rfl⟩:=q5
  rcases hv with ⟨hc,_⟩ | ⟨b',n,cap2,off,cap',hc,rfl,hcap',hoff⟩
  ·cases hc
  ·cases hc
   rw[aQ]at q4
   have hl:((l.drop lo).take (hi-lo)).length=hi-lo:=by rw[aU,aV];omega
   have hle:(lo+(hi-lo))*e.sz G.sz≤cap*e.sz G.sz:=aM _ (by omega)
   rw[Nat.add_mul,← hsz]at hle
   have key:∀ (xs:List (J G.T e)) (cs:List Value) (F:List Nat),RepL (RepE S w true e) xs cs F→(∀ b∈F,S' b)→RepL (RepE S' w false e) xs cs []:=by
    intro xs
    induction xs with
    | nil=>intro cs F h _;exact⟨h.1,rfl⟩
    | cons x xs ih' =>
     rintro cs F ⟨c1,c2,F1,F2,e1,e2,h3,h4⟩ hF
     exact⟨c1,c2,[],[],e1,rfl,h3.freeze hS fun b hb=>hF b (by rw[e2];exact ax _ hb),ih' _ _ h4 fun b hb=>hF b (by rw[e2];exact ay _ hb)⟩
   refine repE_sl.2 (.inr ⟨b,off,cap',c,E,fz,[],by rw[hl],by rw[hl];exact hcap',q3,?_,?_⟩)
   ·rw[hl]
    rcases Nat.lt_or_ge lo hi with hlt | hge
    ·have hoff':off=lo*e.sz G.sz:=hoff.resolve_right fun h=>by omega
     obtain⟨F1,F2,e1,e2,e3⟩:=RepL.split (n:=e.sz G.sz) (fun x c G h=>RepE.len h) lo _ _ _ q4
     obtain⟨F3,F4,e4,e5,e6⟩:=RepL.split (n:=e.sz G.sz) (fun x c G h=>RepE.len h) (hi-lo) _ _ _ e3
     have e7:List.take ((hi-lo)*e.sz G.sz) (List.drop (lo*e.sz G.sz) (List.take (l.length*e.sz G.sz) c.toList))=(c.toList.drop off).take ((hi-lo)*e.sz G.sz):=by
      rw[hoff',List.drop_take,List.take_take]
      congr 1
      have:(hi-lo)*e.sz G.sz≤(l.length-lo)*e.sz G.sz:=aM _ (by omega)
      rw[← Nat.sub_mul,Nat.min_eq_left this]
     rw[e7]at e5
     exact key _ _ _ e5 fun b hb=>hF b (aI _ (by rw[e1,e4];simp[hb]))
    ·have:hi-lo=0:=by omega
     rw[this];simp[RepL]
   ·rw[bz (by decide),hl]
    refine⟨hF b (aH ..),rfl,?_,by omega⟩
    rcases hoff with rfl | ⟨rfl,rfl⟩
    ·exact hle
    ·simp
end
section
variable {E:Env} {Fa:cr E.Z} {C:Ctx} {σ σ1:St E.G} {a:Act} {w:World} {S:Nat→Prop} {F:Nat→List Nat} {V:Nat→Value} {L:List Nat}
theorem jm{α:Type}(f:Nat→α)(s:Nat):upd f s (f s)=f:=by
 funext s'
 by_cases e:s'=s
 ·subst e;rw[ck]
 ·rw[cj _ _ e]
theorem GA(h:Ok C σ a w S F V){s:Nat}{q:cT}{g:Nat}{v:Value}(hp:b9 S w σ.slot V (.ali s q g) v){d0 d:DV E.G.T}(hc:(σ.slot s).cont = .frz d0)(hr:(fS (E:=E) (σ.slot s) q g d0).run Fa σ=some (d,σ1)) :
  σ1=σ∧d.b.whole=true∧Shaped d.b v∧RepB S w d.b d.x v.cells.toList []:=by
 cases q with
 | cons _ _=>exact aA (F:=Fa) hr
 | nil =>
  obtain⟨h1,h2⟩:=aC hr
  obtain⟨h3,h4⟩:=M.run_lift h2
  simp only[aD,Bool.not_eq_true']at h1
  have hv:=hp.2.1 rfl h1.1 (aG h1.2)
  have hs:=h.slots s
  unfold cO at hs
  rw[hc]at hs
  obtain⟨_,⟨k1,k2⟩,k3⟩:=hs
  obtain⟨b0,x0⟩:=d0
  cases b0 with
  | leaf o t =>
   obtain rfl:=aR (show some _=some d from h3)
   rw[hv]
   refine⟨h4,rfl,?_,RepE.freeze (show RepE S w o t x0 (V s).cells.toList (F s)from k1) (fun _ hb=>hb) k3⟩
   cases t <;> exact k2
  | _=>exact(by cases h3)
theorem GB{x:Slot E.G}{q:cT}{g:Nat}{d0 d:DV E.G.T}(hr:(fS (E:=E) x q g d0).run Fa σ=some (d,σ1)):σ1=σ:=by
 cases q with
 | cons _ _=>exact aA (F:=Fa) hr
 | nil =>
  obtain⟨h1,h2⟩:=aC hr
  exact(M.run_lift h2).2
theorem Gz{x:Slot E.G}{q:cT}{g:Nat}{d0 d:DV E.G.T}(hr:(fS (E:=E) x q g d0).run Fa σ=some (d,σ1)):x.box=false∧dK x q g=true:=by
 cases q with
 | cons _ _=>exact aA (F:=Fa) hr
 | nil =>
  obtain⟨h1,h2⟩:=aC hr
  simp only[aD,Bool.not_eq_true']at h1
  refine⟨h1.1,?_⟩
  unfold dK
  simp only[h1.1,cond_false]
  exact h1.2
theorem NE{x:Slot E.G}{q:cT}{g:Nat}{d0 d:DV E.G.T}(hr:(fS (E:=E) x q g d0).run Fa σ=some (d,σ1)):d.b.whole=true:=by
 cases q with
 | cons _ _=>exact aA (F:=Fa) hr
 | nil =>
  obtain⟨h1,h2⟩:=aC hr
  obtain⟨h3,h4⟩:=M.run_lift h2
  obtain⟨b0,x0⟩:=d0
  cases b0 with
  | leaf o t=>obtain rfl:=aR (show some _=some d from h3);rfl
  | _=>cases h3
theorem sL(h:Ok C σ a w S F V){p:bX E}{v:Value}(hp:b9 S w σ.slot V p v){d:DV E.G.T}(hr:(rdM p).run Fa σ=some (d,σ1)){S':Nat→Prop}(hS:∀ b,S b→S' b)(hSF:∀ s,p.slotOf=some s→∀ b∈F s,S' b) :
  σ1=σ∧d.b.whole=true∧Shaped d.b v∧∃ Fd,RepB S' w d.b d.x v.cells.toList Fd∧Fd.Nodup∧(∀ b∈Fd,∃ s,p.slotOf=some s∧b∈F s):=by
 cases p with
 | val d0 =>
  obtain⟨rfl,rfl⟩:=aB (F:=Fa) hr
  exact⟨rfl,lJ hp.2.2,hp.2.1,[],RepB.frame (fun b hb=>⟨hS b hb,rfl⟩) hp.1 (fun _ hb=>by cases hb),List.nodup_nil,fun _ hb=>by cases hb⟩
 | ali s q g =>
  change M.run Fa (match (σ.slot s).cont with
   | .data d=>need (dK (σ.slot s) q g) ((iw (get E.G q d)).bind fun c=>need c.b.whole (.ret c))
   | .frz d=>fS (σ.slot s) q g d
   | _=>.fail) σ=some (d,σ1)at hr
  cases hc:(σ.slot s).cont with
  | dead=>rw[hc]at hr;exact aA (F:=Fa) hr
  | word _=>rw[hc]at hr;exact aA (F:=Fa) hr
  | frz d0 =>
   rw[hc]at hr
   obtain⟨e1,e2,e3,e4⟩:=GA h hp hc hr
   exact⟨e1,e2,e3,[],RepB.frame (fun b hb=>⟨hS b hb,rfl⟩) e4 (fun _ hb=>by cases hb),List.nodup_nil,fun _ hb=>by cases hb⟩
  | data d0 =>
   rw[hc]at hr
   obtain⟨h1,hr⟩:=aC hr
   obtain⟨c,σ',h2,h3⟩:=az hr
   obtain⟨h4,rfl⟩:=M.run_lift h2
   obtain⟨h5,h6⟩:=aC h3
   obtain⟨rfl,rfl⟩:=aB (F:=Fa) h6
   obtain⟨cs,ad,cs',ad',F',k1,k2,k3,k4,k5,k6,k7⟩:=nb h hp h1 hc h4
   obtain⟨Fa',Fc,Fb,r1,r2,r3,r4⟩:=gU _ _ _ _ _ _ _ _ k5 k2 k4
   refine⟨rfl,h5,k7,Fc,by rw[k6];exact RepB.frame (fun b hb=>⟨hS b hb,rfl⟩) r2 (fun _ _=>rfl),?_,fun b hb=>⟨s,rfl,k3.subset (by rw[r1];simp[hb])⟩⟩
   rw[r1]at k4
   exact(aF.1 (aF.1 k4).1).2.1
 | view s q g lo hi =>
  change M.run Fa (match (σ.slot s).cont with
   | .data d=>need (Nat.beq g (σ.slot s).gen) (match get E.G q d with
    | some ⟨.leaf true (.sl e),l⟩=>.ret ⟨.leaf false (.sl e),List.take (hi-lo) (List.drop lo l)⟩
    | _=>.fail)
   | _=>.fail) σ=some (d,σ1)at hr
  cases hc:(σ.slot s).cont with
  | dead=>rw[hc]at hr;exact aA (F:=Fa) hr
  | word _=>rw[hc]at hr;exact aA (F:=Fa) hr
  | frz _=>rw[hc]at hr;exact aA (F:=Fa) hr
  | data d0 =>
   rw[hc]at hr
   obtain⟨h1,hr⟩:=aC hr
   obtain⟨d1,cs,ad,e,l,cs',ad',k1,k2,k3,k4,k5,k6⟩:=hp.2 (cn h1)
   rw[hc]at k1
   cases k1
   obtain⟨cs0,ad0,F',q1,q2,q3⟩:=mv (h.slots s) hc
   obtain⟨rfl,rfl⟩:=q1.eq k2
   obtain⟨Fa',Fc,Fb,r1,r2,r3,r4⟩:=gU _ _ _ _ _ _ _ _ k3 q2 ((h.nd s).sublist q3)
   rw[r3]at hr
   obtain⟨rfl,rfl⟩:=aB (F:=Fa) hr
   have r2':RepE S w true (.sl e) l cs' Fc:=r2
   have hFc:∀ b∈Fc,S' b:=fun b hb=>hSF s rfl b (q3.subset (by rw[r1];simp[hb]))
   have hpart:=Vd r2' hS hFc k4 k5 k6
   have hv:v.cells.toList=[v]∧∀ cs,v ≠ .agg cs:=by
    rcases k6 with ⟨_,rfl⟩ | ⟨b,n,cap,off,cap',_,rfl,_⟩
    ·exact⟨rfl,fun cs h=>(by cases h)⟩
    ·exact⟨rfl,fun cs h=>(by cases h)⟩
   exact⟨rfl,rfl,hv.2,[],by rw[hv.1];exact hpart,List.nodup_nil,fun _ hb=>(by cases hb)⟩
 | _=>exact aA (F:=Fa) hr
theorem Lt(h:Ok C σ a w S F V)(hL:Loose C w S F L){p:bX E}{v:Value}(hp:b9 S w σ.slot V p v){d:DV E.G.T}(hr:(oC p).run Fa σ=some (d,σ1)) :
  ∃ F1,Ok C σ1 a w S F1 V∧d.b.whole=true∧Shaped d.b v∧∃ Fd,RepB S w d.b d.x v.cells.toList Fd∧Loose C w S F1 (Fd++L):=by
 cases p with
 | val d0 =>
  obtain⟨rfl,rfl⟩:=aB (F:=Fa) hr
  exact⟨F,h,lJ hp.2.2,hp.2.1,[],hp.1,hL⟩
 | ali s q g =>
  change M.run Fa (match (σ.slot s).cont with
   | .data d=>need (dK (σ.slot s) q g) (match get E.G q d with
    | some c=>bif c.b.cp E.G then .ret c else need c.b.whole <|
     bif (σ.slot s).box then need (cZ q) (match put E.G ⟨.hole (c.b.sz E.G),()⟩ q d with
      | some d'=>.setS s { σ.slot s with gen:=(σ.slot s).gen+1,orig:=none,cont:=.data d' } (.ret c)
      | none=>.fail)
     else .setS s { σ.slot s with gen:=(σ.slot s).gen+1,born:=(σ.slot s).gen+1,cont:=.dead } (.ret c)
    | none=>.fail)
   | .frz d=>fS (σ.slot s) q g d
   | _=>.fail) σ=some (d,σ1)at hr
  cases hc:(σ.slot s).cont with
  | dead=>rw[hc]at hr;exact aA (F:=Fa) hr
  | word _=>rw[hc]at hr;exact aA (F:=Fa) hr
  | frz d0 =>
   rw[hc]at hr
   obtain⟨rfl,e2,e3,e4⟩:=GA h hp hc hr
   exact⟨F,h,e2,e3,[],e4,hL⟩
  | data d0 =>
   rw[hc]at hr
   obtain⟨h1,hr⟩:=aC hr
   cases hg:get E.G q d0 with
   | none=>rw[hg]at hr;exact aA (F:=Fa) hr
   | some c =>
    rw[hg]at hr
    simp only at hr
    obtain⟨cs,ad,cs',ad',F',k1,k2,k3,k4,k5,k6,k7⟩:=nb h hp h1 hc hg
    obtain⟨Fa',Fc,Fb,r1,r2,r3,r4⟩:=gU _ _ _ _ _ _ _ _ k5 k2 k4
    cases hcp:c.b.cp E.G with
    | true =>
     rw[hcp]at hr
     obtain⟨rfl,rfl⟩:=aB (F:=Fa) hr
     have e0:=RepB.cp hcp r2
     subst e0
     exact⟨F,h,lJ hcp,k7,[],by rw[k6];exact r2,hL⟩
    | false =>
     rw[hcp]at hr
     obtain⟨hwh,hr⟩:=aC hr
     have hFc:∀ b∈Fc,b∈F s:=fun b hb=>k3.subset (by rw[r1];simp[hb])
     have hLc:∀ F1,(∀ s' b,b∈F1 s'→b∈F s'∧(s'=s→b∉Fc))→Loose C w S F1 (Fc++L):=by
      intro F1 hF1
      refine⟨aF.2 ⟨?_,hL.nd,fun x hx y hy e=>hL.apart s x (hFc x hx) (e ▸ hy)⟩,fun s' b hb hb'=>?_,fun b hb=>?_,fun b hb=>?_,fun b hb=>?_⟩
      ·rw[r1]at k4;exact(aF.1 (aF.1 k4).1).2.1
      ·obtain⟨h2,h3⟩:=hF1 s' b hb
       rcases aE.1 hb' with hb' | hb'
       ·by_cases e:s'=s
        ·exact h3 e hb'
        ·exact h.apart s' s e b h2 (hFc b hb')
       ·exact hL.apart s' b h2 hb'
      ·rcases aE.1 hb with hb | hb
       ·exact h.notS s b (hFc b hb) (by unfold nfz;rw[hc])
       ·exact hL.notS b hb
      ·rcases aE.1 hb with hb | hb
       ·exact h.bnd s b (hFc b hb)
       ·exact hL.bnd b hb
      ·rcases aE.1 hb with hb | hb
       ·exact h.fromF s b (hFc b hb)
       ·exact hL.fromF b hb
     cases hbox:(σ.slot s).box with
     | false =>
      rw[hbox]at hr
      change some (c,σ.setS s ⟨(σ.slot s).gen+1,(σ.slot s).gen+1,false,(σ.slot s).orig,.dead⟩)=some (d,σ1)at hr
      cases hr
      have hok:=h.turn (s0:=s) (x':=⟨(σ.slot s).gen+1,(σ.slot s).gen+1,false,(σ.slot s).orig,.dead⟩) (v':=V s) (F':=[]) (S':=S) (w':=w) (fun b hb=>⟨hb,rfl⟩) (fun _ _ _ _=>rfl) (Nat.lt_succ_self _) (.inl (Nat.lt_succ_self _)) (aK _) rfl List.nodup_nil (fun _ hb=>by cases hb) (fun s' hne b hb=>⟨fun hb'=>(by cases hb'),h.notS s' b hb⟩) (fun _ hb=>by cases hb) h.bndS (aK _) (fun _ _ _=>rfl) (fun _ hb=>by cases hb) h.fromS rfl rfl rfl (fun _=>rfl) (fun i h1 h2=>by cases h2)
      rw[jm]at hok
      refine⟨_,hok,hwh,k7,Fc,by rw[k6];exact r2,hLc _ fun s' b hb=>?_⟩
      by_cases e:s'=s
      ·subst e;rw[ck]at hb;cases hb
      ·rw[cj _ _ e]at hb;exact⟨hb,fun e'=>absurd e' e⟩
     | true =>
      rw[hbox]at hr
      obtain⟨hne,hr⟩:=aC hr
      cases hput:put E.G ⟨.hole (c.b.sz E.G),()⟩ q d0 with
      | none=>rw[hput]at hr;exact aA (F:=Fa) hr
      | some d' =>
       rw[hput]at hr
       change some (c,σ.setS s ⟨(σ.slot s).gen+1,(σ.slot s).born,true,none,.data d'⟩)=some (d,σ1)at hr
       cases hr
       have hs:=h.slots s
       unfold cO at hs
       rw[hc]at hs
       simp only at hs
       rw[bw hbox]at hs
       obtain⟨b,cc,E0,F0',e1,e2,e3,e4⟩:=hs
       unfold Root at k1
       rw[bw hbox]at k1
       obtain⟨b',cc',E0',g1,g2,g3,g4⟩:=k1
       rw[e1]at g1;cases g1
       rw[e2]at g2;cases g2
       subst g3
       obtain⟨n,ca,cm,cb,Ga,Gc,Gb,m1,m2,m3,m4,m5,m6⟩:=mt q d0 d cc.toList F0' hne hg e4
       obtain⟨n',l1,l2,l3,l4⟩:=xn q d0 d _ cs' F0' _ ad' hne e4 k5
       rw[m1]at l1;cases l1
       have hcm:cs'=cm:=by rw[l3,m2];exact fj m4 (RepB.len m5)
       have hhole:=m6 ⟨.hole (d.b.sz E.G),()⟩ d' hput S w cm [] (fun b hb=>⟨hb,rfl⟩) (fun _ _=>rfl) (fun _ _=>rfl) ⟨RepB.len m5,rfl⟩
       rw[← m2]at hhole
       simp only[aL]at hhole
       have hnd0:=h.nd s
       rw[e3,m3]at hnd0
       have hsubF:∀ x∈b::(Ga++Gb),x∈F s:=by
        intro x hx
        rw[e3,m3]
        rcases aO.1 hx with rfl | hx
        ·exact aH ..
        ·refine aI _ ?_
         rcases aE.1 hx with hx | hx <;> simp[hx]
       have hok:=h.turn (s0:=s) (x':=⟨(σ.slot s).gen+1,(σ.slot s).born,true,none,.data d'⟩) (v':=V s) (F':=b::(Ga++Gb)) (S':=S) (w':=w) (fun b hb=>⟨hb,rfl⟩) (fun _ _ _ _=>rfl) (Nat.lt_succ_self _) (.inr ⟨rfl,hbox.symm,rfl⟩) (Nat.le_succ_of_le (h.born s))
        (by
         unfold cO
         simp only
         rw[bw trivial]
         exact⟨b,cc,E0,Ga++Gb,e1,e2,rfl,hhole⟩)
        (by
         have h5:=List.nodup_cons.1 hnd0
         have h6:=aF.1 h5.2
         have h7:=aF.1 h6.1
         refine List.nodup_cons.2 ⟨fun hx=>h5.1 ?_,aF.2 ⟨h7.1,h6.2.1,fun x hx y hy=>h6.2.2 x (ax _ hx) y hy⟩⟩
         rcases aE.1 hx with hx | hx <;> simp[hx])
        (fun x hx=>h.notS s x (hsubF x hx) (by unfold nfz;rw[hc])) (fun s' hne b hb=>⟨fun hb'=>h.apart s' s hne b hb (hsubF b hb'),h.notS s' b hb⟩) (fun x hx=>h.bnd s x (hsubF x hx)) h.bndS (aK _) (fun _ _ _=>rfl) (fun x hx=>h.fromF s x (hsubF x hx)) h.fromS rfl rfl rfl (fun _=>rfl) (fun i h1=>by cases h1)
       rw[jm]at hok
       have hGc:RepB S w d.b d.x v.cells.toList Gc:=by rw[k6,hcm];exact m5
       have hGF:∀ x∈Gc,x∈F s:=by intro x hx;rw[e3,m3];simp[hx]
       refine⟨_,hok,hwh,k7,Gc,hGc,aF.2 ⟨?_,hL.nd,fun x hx y hy e=>hL.apart s x (hGF x hx) (e ▸ hy)⟩,fun s' y hy hy'=>?_,fun y hy=>?_,fun y hy=>?_,fun y hy=>?_⟩
       ·exact(aF.1 (aF.1 (List.nodup_cons.1 hnd0).2).1).2.1
       ·rcases aE.1 hy' with hy' | hy'
        ·by_cases e:s'=s
         ·subst e;rw[ck]at hy
          have h5:=List.nodup_cons.1 hnd0
          have h6:=aF.1 h5.2
          have h7:=aF.1 h6.1
          rcases aO.1 hy with rfl | hy
          ·exact h5.1 (by simp[hy'])
          ·rcases aE.1 hy with hy | hy
           ·exact h7.2.2 y hy y hy' rfl
           ·exact h6.2.2 y (ay _ hy') y hy rfl
         ·rw[cj _ _ e]at hy;exact h.apart s' s e y hy (hGF y hy')
        ·by_cases e:s'=s
         ·subst e;rw[ck]at hy;exact hL.apart s' y (hsubF y hy) hy'
         ·rw[cj _ _ e]at hy;exact hL.apart s' y hy hy'
       ·rcases aE.1 hy with hy | hy
        ·exact h.notS s y (hGF y hy) (by unfold nfz;rw[hc])
        ·exact hL.notS y hy
       ·rcases aE.1 hy with hy | hy
        ·exact h.bnd s y (hGF y hy)
        ·exact hL.bnd y hy
       ·rcases aE.1 hy with hy | hy
        ·exact h.fromF s y (hGF y hy)
        ·exact hL.fromF y hy
 | _=>exact aA (F:=Fa) hr
theorem Ok.repin(h:Ok C σ a w S F V){t:Nat}{p:bX E}(hp:b9 S w σ.slot V p (a.tmps.getD t undef)):Ok C (σ.setP t p) a w S F V:=by
 refine { h with pins:=fun t'=>?_ }
 rw[St.setP_pin]
 unfold upd
 by_cases e:t'=t
 ·subst e;rw[bw rfl];exact hp
 ·rw[bz e];exact h.pins t'
theorem FM{α:Type}{k:ME E α}{r:α×St E.G}{w1:World}{S1:Nat→Prop}{F1:Nat→List Nat}{s:Nat}(h:Ok C σ a w S F V)(h1:Ok C σ1 a w1 S1 F1 V)(hp:σ1.pin (wT s)=σ.pin (wT s))
  (hborn:∀ s',s'≠s→(σ1.slot s').born=(σ.slot s').born) (hcell:(σ.slot s).box=true→∀ u,fd w true (V s) u→fd w1 true (V s) u)
  (hr:(lH (E:=E) s (σ.slot s) k).run Fa σ1=some r):∃ σ2,k.run Fa σ2=some r∧Ok C σ2 a w1 S1 F1 V∧σ2.slot=σ1.slot:=by
 unfold lH at hr
 rw[M.run_getP]at hr
 split at hr
 ·rename_i s0 gs s' g' hq
  rw[M.run_getS]at hr
  cases hc:(Nat.beq s0 s&&(Nat.beq gs (σ.slot s).gen&&((σ.slot s).box&&((σ1.slot s).box&&(Nat.beq (σ1.slot s).born (σ.slot s).born&&gw (σ1.slot s).cont))))) with
  | false=>rw[hc]at hr;exact⟨σ1,hr,h1,rfl⟩
  | true =>
   rw[hc]at hr
   rw[cond_true,M.run_setP]at hr
   simp only[aD]at hc
   obtain⟨c1,c2,c3,c4,c5,c6⟩:=hc
   have c1':=cn c1
   subst c1'
   have c2':=cn c2
   have c5':=cn c5
   have hp1:=h1.pins (wT s0)
   rw[hq]at hp1
   have hp0:=h.pins (wT s0)
   rw[← hp,hq]at hp0
   refine⟨_,hr,h1.repin ?_,rfl⟩
   refine⟨aK _,hp1.2.1,fun _ hb=>⟨?_,?_⟩⟩
   ·unfold gw at c6
    split at c6
    ·rename_i d hd;exact⟨d,hd⟩
    ·cases c6
   ·have hb0:(σ.slot s').born≤g':=by
     by_cases e:s'=s0
     ·subst e;rw[← c5'];exact hb
     ·rw[← hborn s' e];exact hb
    have:=(hp0.2.2 c2' hb0).2
    rw[c3]at this
    rw[c4]
    exact hcell c3 _ this
 ·exact⟨σ1,hr,h1,rfl⟩
theorem YR{s:Nat}{q:cT}{g:Nat}{d:DV E.G.T}(hr:(oC (E:=E) (.ali s q g)).run Fa σ=some (d,σ1)):σ1.pin=σ.pin∧∀ s',s'≠s→σ1.slot s'=σ.slot s':=by
 change M.run Fa (match (σ.slot s).cont with
   | .data d=>need (dK (σ.slot s) q g) (match get E.G q d with
    | some c=>bif c.b.cp E.G then .ret c else need c.b.whole <|
     bif (σ.slot s).box then need (cZ q) (match put E.G ⟨.hole (c.b.sz E.G),()⟩ q d with
      | some d'=>.setS s { σ.slot s with gen:=(σ.slot s).gen+1,orig:=none,cont:=.data d' } (.ret c)
      | none=>.fail)
     else .setS s { σ.slot s with gen:=(σ.slot s).gen+1,born:=(σ.slot s).gen+1,cont:=.dead } (.ret c)
    | none=>.fail)
   | .frz d=>fS (σ.slot s) q g d
   | _=>.fail) σ=some (d,σ1)at hr
 cases hc:(σ.slot s).cont with
 | dead=>rw[hc]at hr;exact aA (F:=Fa) hr
 | word _=>rw[hc]at hr;exact aA (F:=Fa) hr
 | frz d0=>rw[hc]at hr;exact⟨by rw[GB hr],fun _ _=>by rw[GB hr]⟩
 | data d0 =>
  rw[hc]at hr
  obtain⟨_,hm2⟩:=aC hr
  cases hg:get E.G q d0 with
  | none=>rw[hg]at hm2;exact aA (F:=Fa) hm2
  | some c =>
   rw[hg]at hm2
   simp only at hm2
   cases hcp:c.b.cp E.G with
   | true=>rw[hcp]at hm2;obtain⟨rfl,rfl⟩:=aB (F:=Fa) hm2;exact⟨rfl,fun _ _=>rfl⟩
   | false =>
    rw[hcp]at hm2
    obtain⟨hw,hm3⟩:=aC hm2
    cases hbx:(σ.slot s).box with
    | true =>
     rw[hbx]at hm3
     obtain⟨_,hm4⟩:=aC hm3
     split at hm4
     ·cases hm4;exact⟨rfl,fun s' hs=>by rw[St.setS_slot,cj _ _ hs]⟩
     ·exact aA (F:=Fa) hm4
    | false=>rw[hbx]at hm3;cases hm3;exact⟨rfl,fun s' hs=>by rw[St.setS_slot,cj _ _ hs]⟩
theorem qG{s:Nat}{q:cT}{g:Nat}{d:DV E.G.T}(hr:(iE (E:=E) (.ali s q g)).run Fa σ=some (d,σ1)):∃ σ2,(oC (E:=E) (.ali s q g)).run Fa σ=some (d,σ2)∧(lH (E:=E) s (σ.slot s) (.ret d)).run Fa σ2=some (d,σ1):=by
 have hr2:M.run Fa ((oC (E:=E) (.ali s q g)).bind fun d=>lH s (σ.slot s) (.ret d)) σ=some (d,σ1):=hr
 obtain⟨d1,σ2,h1,h2⟩:=az hr2
 have e:d=d1:=by
  unfold lH at h2
  rw[M.run_getP]at h2
  split at h2
  ·rename_i s0 gs s' g' _
   rw[M.run_getS]at h2
   cases hc:(Nat.beq s0 s&&(Nat.beq gs (σ.slot s).gen&&((σ.slot s).box&&((σ2.slot s).box&&(Nat.beq (σ2.slot s).born (σ.slot s).born&&gw (σ2.slot s).cont))))) <;> (rw[hc]at h2;cases h2;rfl)
  ·cases h2;rfl
 subst e
 exact⟨σ2,h1,h2⟩
theorem ux(h:Ok C σ a w S F V)(hL:Loose C w S F L){p:bX E}{v:Value}(hp:b9 S w σ.slot V p v){d:DV E.G.T}(hr:(iE p).run Fa σ=some (d,σ1)) :
  ∃ F1,Ok C σ1 a w S F1 V∧d.b.whole=true∧Shaped d.b v∧∃ Fd,RepB S w d.b d.x v.cells.toList Fd∧Loose C w S F1 (Fd++L):=by
 cases p with
 | ali s q g =>
  obtain⟨σ2,h1,h2⟩:=qG hr
  obtain⟨F1,g1,g2,g3,Fd,g4,g5⟩:=Lt h hL hp h1
  obtain⟨f1,f2⟩:=YR h1
  obtain⟨σ3,k1,k2,k3⟩:=FM h g1 (by rw[f1]) (fun s' hs=>by rw[f2 s' hs]) (fun _ u hu=>hu) h2
  obtain⟨_,rfl⟩:=aB (F:=Fa) k1
  exact⟨F1,k2,g2,g3,Fd,g4,g5⟩
 | val _=>exact Lt h hL hp hr
 | _=>exact aA (F:=Fa) hr
end
end
section
section
variable {E:Env} {Fa:cr E.Z} {C:Ctx} {σ σ1:St E.G} {a:Act} {w:World} {S:Nat→Prop} {F:Nat→List Nat} {V:Nat→Value} {L:List Nat} {fn:Fn}
theorem rv{d:DV E.G.T}{cs:List Value}{Fd:List Nat}(hc:d.b.cp E.G=true)(hr:RepB S w d.b d.x cs Fd):RepB S w (cpn d).b (cpn d).x cs []∧(cpn d).b.cp E.G=true∧Fd=[]:=by
 have h0:=RepB.cp hc hr
 subst h0
 obtain⟨b,x⟩:=d
 cases b with
 | leaf o t =>
  refine⟨?_,rfl,rfl⟩
  have hr':RepE S w o t x cs []:=hr
  simp only[BT.cp,aY,Bool.not_eq_true']at hc
  rcases hc with rfl | hf
  ·exact hr'
  ·exact(hr'.flat hf false S w).2
 | un=>exact⟨hr,hc,rfl⟩
 | pr a b=>exact⟨hr,hc,rfl⟩
 | hole n=>cases hc
 | sp _=>cases hc
 | fn _=>exact⟨hr,hc,rfl⟩
theorem rx{d:DV E.G.T}{v:Value}(h:Shaped d.b v):Shaped (cpn d).b v:=by
 obtain⟨b,x⟩:=d
 cases b with
 | leaf o t=>cases t <;> exact h
 | _=>exact h
theorem xH{sl:Nat→Slot E.G}{V:Nat→Value}{s g:Nat}{d:DV E.G.T}{v:Value}(hx:sl s=⟨g,g,false,none,.data d⟩)(hv:V s=v)(hsh:Shaped d.b v):b9 S w sl V (.ali s [] g) v:=by
 refine⟨by rw[hx];exact aK _,fun _ _ _=>hv.symm,fun _=>?_⟩
 refine⟨d,v.cells.toList,none,d,v.cells.toList,none,by rw[hx],?_,rfl,rfl,hsh⟩
 unfold Root
 rw[hx,hv,bz (by simp)]
 exact⟨rfl,rfl⟩
theorem nL{np s:Nat}{box:Bool}{og:Option Nat}{c:Cont E.G}{g:Nat}(h:(fa (E:=E) np s box og c).run Fa σ=some (g,σ1)) :
  16*np≤s∧g=(σ.slot s).gen+1∧σ1=σ.setS s ⟨(σ.slot s).gen+1,(σ.slot s).gen+1,box,og,c⟩:=by
 obtain⟨h1,h2⟩:=aC h
 cases h2
 exact⟨aG h1,rfl,rfl⟩
theorem qf(hnp:fn.np=C.np)(h:Ok C σ a w S F V){Fd:List Nat}(hL:Loose C w S F (Fd++L)){d:DV E.G.T}{v:Value}(hr:RepB S w d.b d.x v.cells.toList Fd)(hsh:Shaped d.b v){s g:Nat}
  (hm:(fa (E:=E) fn.np s false none (.data d)).run Fa σ=some (g,σ1)):∃ F' V',Ok C σ1 a w S F' V'∧b9 S w σ1.slot V' (.ali s [] g) v∧Loose C w S F' L:=by
 obtain⟨h1,rfl,rfl⟩:=nL hm
 rw[hnp]at h1
 obtain⟨h2,h3⟩:=h.make hL h1 (x':=⟨(σ.slot s).gen+1,(σ.slot s).gen+1,false,none,.data d⟩) rfl rfl (v':=v) (by
  unfold cO
  simp only
  rw[bz (by simp)]
  exact⟨hr,hsh⟩) (fun i h=>by cases h)
 refine⟨_,_,h2,?_,h3⟩
 exact xH (by rw[St.setS_slot,ck]) (ck _ _ _) hsh
theorem Ok.share{Fd:List Nat}(h:Ok C σ a w S F V)(hL:Loose C w S F (Fd++L)):Ok C σ a w (fun b=>S b∨b∈Fd) F V∧Loose C w (fun b=>S b∨b∈Fd) F L:=by
 have hS:∀ b,S b→(S b∨b∈Fd)∧w.heap[b]? = w.heap[b]?:=fun b hb=>⟨.inl hb,rfl⟩
 have ht:∀ s,kg w w (σ.slot s) (σ.slot s) (V s) (V s) (F s):=fun s=>.inl ⟨rfl,rfl,fun _ _=>rfl⟩
 have hn:=aF.1 hL.nd
 constructor
 ·exact { h with
   pins:=fun t=>iA h.slots hS ht _ _ (h.pins t)
   slots:=fun s=>qF h.slots hS ht rfl rfl (fun _ _=>rfl)
   notS:=fun s b hb hz h'=>h'.elim (h.notS s b hb hz) fun h''=>hL.apart s b hb (ax _ h'')
   bndS:=fun b hb=>hb.elim (h.bndS b) fun h'=>hL.bnd b (ax _ h')
   fromS:=fun b hb=>hb.elim (h.fromS b) fun h'=>.inr (hL.fromF b (ax _ h'))
   inS:=fun b hb=>.inl (h.inS b hb) }
 ·exact⟨hn.2.1,fun s b hb hb'=>hL.apart s b hb (ay _ hb'),fun b hb h'=>h'.elim (hL.notS b (ay _ hb)) fun h''=>hn.2.2 b h'' b hb rfl,fun b hb=>hL.bnd b (ay _ hb),fun b hb=>hL.fromF b (ay _ hb)⟩
theorem LL(hnp:fn.np=C.np)(h:Ok C σ a w S F V){Fd:List Nat}(hL:Loose C w S F (Fd++L)){d:DV E.G.T}{v:Value}(hr:RepB S w d.b d.x v.cells.toList Fd)(hsh:Shaped d.b v){s:Nat}{frz:Bool}{p:bX E}
  (hm:(lu (E:=E) fn s frz d).run Fa σ=some (p,σ1)):∃ S' F' V',(∀ b,S b→S' b)∧Ok C σ1 a w S' F' V'∧b9 S' w σ1.slot V' p v∧Loose C w S' F' L:=by
 unfold lu at hm
 cases hc:d.b.cp E.G with
 | true =>
  rw[hc]at hm
  obtain⟨rfl,rfl⟩:=aB (F:=Fa) hm
  obtain⟨h1,h2,rfl⟩:=rv hc hr
  exact⟨S,F,V,fun _ h=>h,h,⟨h1,rx hsh,h2⟩,hL⟩
 | false =>
  rw[hc]at hm
  cases frz with
  | true =>
   obtain⟨b,x⟩:=d
   cases b with
   | leaf o t =>
    obtain⟨rfl,rfl⟩:=aB (F:=Fa) hm
    obtain⟨h1,h2⟩:=h.share hL
    refine⟨_,F,V,fun _ h=>.inl h,h1,⟨?_,by cases t <;> exact hsh,rfl⟩,h2⟩
    exact RepE.freeze (show RepE S w o t x _ Fd from hr) (fun _ h=>.inl h) fun b hb=>.inr hb
   | _=>exact aA (F:=Fa) hm
  | false =>
   obtain⟨g,σ',h1,h2⟩:=az (show M.run Fa ((fa (E:=E) fn.np s false none (.data d)).bind fun g=>.ret (.ali s [] g)) σ=some (p,σ1)from hm)
   obtain⟨rfl,rfl⟩:=aB (F:=Fa) h2
   obtain⟨F',V',k1,k2,k3⟩:=qf hnp h hL hr hsh h1
   exact⟨S,F',V',fun _ h=>h,k1,k2,k3⟩
theorem OJ(h:Ok C σ a w S F V)(hL:Loose C w S F L){s:Nat}(hm:(wd (E:=E) s).run Fa σ=some ((),σ1)) :
  Ok C σ1 a w (fun b=>S b∨b∈F s) F V∧Loose C w (fun b=>S b∨b∈F s) F L∧∀ q u,b9 S w σ.slot V q u→b9 (fun b=>S b∨b∈F s) w σ1.slot V q u:=by
 have hm':M.run Fa (match (σ.slot s).cont with
  | .data d=>need (!(σ.slot s).box) (.setS s { σ.slot s with gen:=(σ.slot s).gen+1,orig:=none,cont:=.frz d } (.ret ()))
  | _=>.fail) σ=some ((),σ1):=hm
 cases hc:(σ.slot s).cont with
 | dead=>rw[hc]at hm';exact aA (F:=Fa) hm'
 | word _=>rw[hc]at hm';exact aA (F:=Fa) hm'
 | frz _=>rw[hc]at hm';exact aA (F:=Fa) hm'
 | data d =>
  rw[hc]at hm'
  obtain⟨hb,hm2⟩:=aC hm'
  rw[M.run_setS]at hm2
  obtain⟨_,rfl⟩:=aB (F:=Fa) hm2
  have hbox:(σ.slot s).box=false:=by simpa using hb
  have hs:=h.slots s
  unfold cO at hs
  rw[hc]at hs
  simp only at hs
  rw[hbox,bz (by decide)]at hs
  have hok:=h.turnF (s0:=s) (x':={ σ.slot s with gen:=(σ.slot s).gen+1,orig:=none,cont:=.frz d }) (v':=V s) (F':=F s) (S':=fun b=>S b∨b∈F s) (w':=w) (fun b hb=>⟨.inl hb,rfl⟩) (fun _ _ _ _=>rfl) (Nat.lt_succ_self _) (.inr ⟨rfl,rfl,rfl⟩) (Nat.le_succ_of_le (h.born s))
   ⟨hbox,⟨RepB.frame (fun b hb=>⟨.inl hb,rfl⟩) hs.1 (fun _ _=>rfl),hs.2⟩,fun b hb=>.inr hb⟩ (h.nd s) (fun b hb hz=>by cases hz)
   (fun s' hne b hb=>⟨h.apart s' s hne b hb,fun hz h'=>h'.elim (h.notS s' b hb hz) (h.apart s' s hne b hb)⟩) (h.bnd s) (fun b hb=>hb.elim (h.bndS b) (h.bnd s b)) (aK _) (fun _ _ _=>rfl) (h.fromF s) (fun b hb=>hb.elim (h.fromS b) fun h'=>.inr (h.fromF s b h')) rfl rfl rfl (fun _=>rfl) (fun i h1=>by cases h1)
  rw[jm,jm]at hok
  refine⟨hok,{ hL with notS:=fun b hb h'=>h'.elim (hL.notS b hb) fun h''=>hL.apart s b h'' hb },fun q u hq=>iA h.slots (fun b hb=>⟨.inl hb,rfl⟩) (fun s'=>?_) q u hq⟩
  rw[St.setS_slot]
  by_cases e:s'=s
  ·subst e;rw[ck];exact .inr ⟨Nat.lt_succ_self _,.inr ⟨rfl,rfl,rfl⟩⟩
  ·rw[cj _ _ e];exact .inl ⟨rfl,rfl,fun _ _=>rfl⟩
theorem EW(hnp:fn.np=C.np)(h:Ok C σ a w S F V){Fd:List Nat}(hL:Loose C w S F (Fd++L)){dv:DV E.G.T}{v:Value}(hr:RepB S w dv.b dv.x v.cells.toList Fd){d:Nat}{og:Option Nat}(hog:∀ i,og=some i→v.cells.toList=(C.V0 (16*i)).cells.toList){p:bX E}(ty:TypeId)
  (hm:(uB (E:=E) fn d og (.data dv)).run Fa σ=some (p,σ1)):∃ F' V',Ok C σ1 a (w.alloc (.cells v.cells ty)) S F' V'∧b9 S (w.alloc (.cells v.cells ty)) σ1.slot V' p (.pointer (some ⟨w.heap.size,0,none⟩))∧Loose C (w.alloc (.cells v.cells ty)) S F' L∧∀ s0 q o g,p = .ptr s0 q o g→∀ s',s'≠s0→V' s'=V s':=by
 obtain⟨g,σ',h1,h2⟩:=az hm
 obtain⟨rfl,rfl⟩:=aB (F:=Fa) h2
 obtain⟨h3,rfl,rfl⟩:=nL h1
 rw[hnp]at h3
 have hg:=Grows.alloc w (.cells v.cells ty)
 have h':=h.grow' hg
 have hL':=hL.grow hg
 have hr':=RepB.grow hr h.bndS (fun b hb=>hL.bnd b (ax _ hb)) hg
 have hnew:=heap_alloc_new w (.cells v.cells ty)
 have hL2:Loose C (w.alloc (.cells v.cells ty)) S F ((w.heap.size::Fd)++L):=by
  refine⟨List.nodup_cons.2 ⟨fun hx=>absurd (hL.bnd _ hx) (Nat.lt_irrefl _),hL.nd⟩,fun s b hb hb'=>?_,fun b hb hs=>?_,fun b hb=>?_,fun b hb=>?_⟩
  ·rcases aO.1 hb' with rfl | hb'
   ·exact absurd (h.bnd s _ hb) (Nat.lt_irrefl _)
   ·exact hL.apart s b hb hb'
  ·rcases aO.1 hb with rfl | hb
   ·exact absurd (h.bndS _ hs) (Nat.lt_irrefl _)
   ·exact hL.notS b hb hs
  ·rcases aO.1 hb with rfl | hb
   ·simp
   ·exact hL'.bnd b hb
  ·rcases aO.1 hb with rfl | hb
   ·exact .inr h.grow
   ·exact hL.fromF b hb
 obtain⟨k1,k2⟩:=h'.make hL2 h3 (x':=⟨(σ.slot (16*d)).gen+1,(σ.slot (16*d)).gen+1,true,og,.data dv⟩) rfl rfl (v':=.pointer (some ⟨w.heap.size,0,none⟩)) (by
  unfold cO
  simp only
  rw[bw trivial]
  exact⟨w.heap.size,v.cells,ty,Fd,rfl,hnew,rfl,hr'⟩) (fun i hi _ _ cs ad hroot=>by
   unfold Root at hroot
   rw[bw rfl]at hroot
   obtain⟨b,c,E',q1,q2,rfl,q4⟩:=hroot
   cases q1
   rw[hnew]at q2
   cases q2
   exact hog i hi)
 refine⟨_,_,k1,⟨⟨by rw[St.setS_slot,ck];exact aK _,_,_,rfl⟩,fun _ _=>⟨by rw[St.setS_slot,ck],w.heap.size,by rw[ck],rfl⟩,fun h=>by cases h⟩,k2,fun s0 q o g hp s' hs=>by cases hp;exact cj _ _ hs⟩
end
end
section
section
variable {E:Env} {Fa:cr E.Z} {C:Ctx} {σ σ1:St E.G} {a:Act} {w:World} {S:Nat→Prop} {F:Nat→List Nat} {V:Nat→Value} {L:List Nat} {fn:Fn}
theorem Yt{T:Nat→Type}{v:DV T}:∀ {i:Nat} {b:BT} {x:B T b} {dm:DV T},g9 v i b x=some dm→∃ a c,dm.b = .pr a c
 | 0,.pr a b,x,dm,h=>by cases h;exact⟨_,_,rfl⟩
 | i+1,.pr a b,x,dm,h=>by
  simp only[g9]at h
  split at h
  ·cases h;exact⟨_,_,rfl⟩
  ·exact b7 h
 | 0,.leaf _ _,x,dm,h=>b7 h
 | 0,.un,x,dm,h=>b7 h
 | 0,.hole _,x,dm,h=>b7 h
 | 0,.sp _,x,dm,h=>b7 h
 | 0,.fn _,x,dm,h=>b7 h
 | _+1,.leaf _ _,x,dm,h=>b7 h
 | _+1,.un,x,dm,h=>b7 h
 | _+1,.hole _,x,dm,h=>b7 h
 | _+1,.sp _,x,dm,h=>b7 h
 | _+1,.fn _,x,dm,h=>b7 h
theorem La{G:Gam}{v d dn:DV G.T}{st:Step}{p:cT}{u:Value}(h:put G v (st::p) d=some dn)(hs:Shaped d.b u):Shaped dn.b u:=by
 cases st with
 | el i =>
  obtain⟨e,l,c',y,rfl,_,_,rfl⟩:=sJ h
  exact hs
 | fld i =>
  have hd:∃ cs,u = .agg cs:=by
   obtain⟨b,x⟩:=d
   cases b with
   | leaf o t=>cases t with
    | nm n=>exact hs
    | _=>exact b7 h
   | pr a b=>exact hs
   | un=>exact b7 h
   | hole n=>exact b7 h
   | sp _=>exact b7 h
   | fn _=>exact b7 h
  obtain⟨c,c',dm,h1,h2,h3,h4⟩:=sK h
  obtain⟨b1,b2,hb⟩:=Yt h3
  have hdm:Shaped dm.b u:=by rw[hb];exact hd
  rcases h4 with rfl | ⟨o,n,rfl⟩
  ·exact hdm
  ·unfold implode
   split
   ·exact hd
   ·exact hdm
theorem U1(h:Ok C σ a w S F V){Fd:List Nat}(hL:Loose C w S F (Fd++L)){s:Nat}{p:cT}{off g:Nat}{vp:Value}(hp:b9 S w σ.slot V (.ptr s p off g) vp)
  {d:DV E.G.T} {csn:List Value} (hr:RepB S w d.b d.x csn Fd) {n:Nat} (hn:csn.length=n) {d0 c0:DV E.G.T} (hc:(σ.slot s).cont = .data d0) (hg0:get E.G p d0=some c0) (hsz:c0.b.sz E.G=n)
  (hm:(xO (E:=E) s p off g false d).run Fa σ=some ((),σ1)) :
  ∃ b o c E0 fz,vp = .pointer (some ⟨b,o,none⟩)∧w.heap[b]? = some (.cells c E0 fz)∧jo fz c.size∧o+n≤c.size ∧
   ∀ w',Upd w w' b o csn→w'.heap.size=w.heap.size→w'.os=w.os→w'.tape=w.tape→w'.output=w.output→(∃ F',Ok C σ1 a w' S F' V∧Loose C w' S F' L)∧(pW p off=true→(σ.slot s).box=true→∀ u,fd w true (V s) u→fd w' true (V s) u):=by
 change M.run Fa (match (σ.slot s).cont with
  | .data d1=>need (gS (σ.slot s) p off g d1) (match put E.G d p d1 with
   | some d'=>.setS s { σ.slot s with gen:=(σ.slot s).gen+1,orig:=bif false then(σ.slot s).orig else(bif cZ p then none else(σ.slot s).orig),cont:=.data d' } (.ret ())
   | none=>.fail)
  | _=>.fail) σ=some ((),σ1)at hm
 rw[hc]at hm
 obtain⟨hok,hm⟩:=aC hm
 cases hput:put E.G d p d0 with
 | none=>rw[hput]at hm;exact aA (F:=Fa) hm
 | some dn =>
 rw[hput]at hm
 change some ((),σ.setS s ⟨(σ.slot s).gen+1,(σ.slot s).born,(σ.slot s).box,bif cZ p then none else(σ.slot s).orig,.data dn⟩)=some ((),σ1)at hm
 cases hm
 simp only[gS,aD]at hok
 obtain⟨hcur,hoff⟩:=hok
 have hs:=h.slots s
 have hnd:=h.nd s
 have hLn:=aF.1 hL.nd
 have fin:∀ (b:Nat) (Fs':List Nat) (w':World) (o:Nat),b∈F s→Upd w w' b o csn→w'.heap.size=w.heap.size→w'.os=w.os→w'.tape=w.tape→w'.output=w.output →
   cO S w' (upd σ.slot s ⟨(σ.slot s).gen+1,(σ.slot s).born,(σ.slot s).box,bif cZ p then none else(σ.slot s).orig,.data dn⟩) (upd V s (V s)) ⟨(σ.slot s).gen+1,(σ.slot s).born,(σ.slot s).box,bif cZ p then none else(σ.slot s).orig,.data dn⟩ (V s) Fs' →
   Fs'.Nodup→(∀ x∈Fs',x∈Fd∨x∈F s)→(cZ p=false→∀ cs ad,Root w' (σ.slot s) (V s) cs ad→Root w (σ.slot s) (V s) cs ad) →
   ∃ F',Ok C (σ.setS s ⟨(σ.slot s).gen+1,(σ.slot s).born,(σ.slot s).box,bif cZ p then none else(σ.slot s).orig,.data dn⟩) a w' S F' V∧Loose C w' S F' L:=by
  intro b Fs' w' o hb hu hsize hos htape hout hslot hnd' hsub hroot
  have hin:∀ x∈Fs',¬ S x∧x<w.heap.size∧(x∈C.F0∨C.w0.heap.size≤x)∧(∀ s',s'≠s→x∉F s')∧x∉L:=by
   intro x hx
   rcases hsub x hx with hx | hx
   ·exact⟨hL.notS x (ax _ hx),hL.bnd x (ax _ hx),hL.fromF x (ax _ hx),fun s' _ hx'=>hL.apart s' x hx' (ax _ hx),fun hx'=>hLn.2.2 x hx x hx' rfl⟩
   ·exact⟨h.notSd hc x hx,h.bnd s x hx,h.fromF s x hx,fun s' hne hx'=>h.apart s s' (fun e=>hne e.symm) x hx hx',fun hx'=>hL.apart s x hx (ay _ hx')⟩
  have hok:=h.turn (s0:=s) (x':=⟨(σ.slot s).gen+1,(σ.slot s).born,(σ.slot s).box,bif cZ p then none else(σ.slot s).orig,.data dn⟩) (v':=V s) (F':=Fs') (S':=S) (w':=w')
   (fun x hx=>⟨hx,hu.other x fun e=>h.notSd hc b hb (e ▸ hx)⟩) (fun s' hne x hx=>hu.other x fun e=>h.apart s' s hne x hx (e ▸ hb)) (Nat.lt_succ_self _) (.inr ⟨rfl,rfl,rfl⟩) (Nat.le_succ_of_le (h.born s)) hslot hnd'
   (fun x hx=>(hin x hx).1) (fun s' hne x hx=>⟨fun hx'=>(hin x hx').2.2.2.1 s' hne hx,h.notS s' x hx⟩) (fun x hx=>by rw[hsize];exact(hin x hx).2.1) (fun x hx=>by rw[hsize];exact h.bndS x hx) (by rw[hsize];exact aK _)
   (fun x h1 h2=>hu.other x fun e=>by subst e;rcases h.fromF s x hb with h3 | h3;· exact h2 h3
                                      ·omega)
   (fun x hx=>(hin x hx).2.2.1) h.fromS hos htape hout (fun _=>rfl) (fun i h1 h2 _ cs ad hrt=>by
    cases hne:cZ p with
    | true=>rw[hne]at h1;cases h1
    | false =>
     rw[hne]at h1
     have hrt':Root w' (σ.slot s) (V s) cs ad:=hrt
     exact h.orig s i h1 h2 (by rw[hc];intro e;cases e) cs ad (hroot hne cs ad hrt'))
  rw[jm]at hok
  refine⟨_,hok,hLn.2.1,fun s' x hx hx'=>?_,fun x hx=>hL.notS x (ay _ hx),fun x hx=>by rw[hsize];exact hL.bnd x (ay _ hx),fun x hx=>hL.fromF x (ay _ hx)⟩
  by_cases e:s'=s
  ·subst e;rw[ck]at hx;exact(hin x hx).2.2.2.2 hx'
  ·rw[cj _ _ e]at hx;exact hL.apart s' x hx (ay _ hx')
 rcases Bool.eq_false_or_eq_true (cZ p)with hne | hne
 ·have hcur':(σ.slot s).born≤g:=by
   unfold kr at hcur;rw[hne]at hcur;exact aG hcur
  obtain⟨hbox,b,hV,rfl⟩:=hp.2.1 hne hcur'
  unfold cO at hs
  rw[hc]at hs
  simp only at hs
  rw[bw hbox]at hs
  obtain⟨b',c,E0,F0',e1,e2,e3,e4⟩:=hs
  rw[hV]at e1;cases e1
  obtain⟨m,ca,cm,cb,Ga,Gc,Gb,m1,m2,m3,m4,m5,m6⟩:=mt p d0 c0 c.toList F0' hne hg0 e4
  rw[hne,m1]at hoff
  have hmo:m=off:=cn hoff
  subst hmo
  have hcm:cm.length=n:=(RepB.len m5).trans hsz
  have hcsz:c.size=ca.length+cm.length+cb.length:=by rw[← aJ,m2];simp[Nat.add_assoc]
  refine⟨b,m,c,E0,(0,0),rfl,e2,.inl rfl,by omega,fun w' hu hsize hos htape hout=>?_⟩
  obtain⟨c1,c2,E',fz',u1,u2,u3,u4⟩:=hu.ex
  rw[e2]at u1;cases u1
  have hc2:c2.toList=ca++csn++cb:=by
   rw[u4,m2,hn,← hcm,← m4]
   rw[List.append_assoc ca cm cb,List.take_left,← List.drop_drop,List.drop_left,List.drop_left]
  rw[e3,m3]at hnd
  have h5:=List.nodup_cons.1 hnd
  have h6:=aF.1 h5.2
  have h7:=aF.1 h6.1
  have hFs:∀ x,x∈Ga∨x∈Gb→x∈F s:=by
   intro x hx;rw[e3,m3];rcases hx with hx | hx <;> simp[hx]
  have hbF:b∈F s:=by rw[e3];exact aH ..
  have hbG:∀ x,x∈Ga∨x∈Gb→x≠b:=by
   intro x hx e;subst e;refine h5.1 ?_;rcases hx with hx | hx <;> simp[hx]
  have hFd:∀ x∈Fd,x∉F s:=fun x hx hx'=>hL.apart s x hx' (ax _ hx)
  refine⟨?_,fun hk _ u hu0=>?_⟩
  rotate_left
  ·simp only[pW,hne,Bool.not_true,Bool.false_or]at hk
   have hm0:0<m:=aG hk
   obtain⟨bu,cu,Eu,fu,z1,z2,z3⟩:=hu0
   rw[hV]at z1
   cases z1
   rw[e2]at z2
   cases z2
   refine⟨b,c2,E0,(0,0),hV,u2,?_⟩
   rw[← Array.getElem?_toList]at z3 ⊢
   rw[u4,List.append_assoc,List.getElem?_append_left (by rw[aU,aJ];omega),List.getElem?_take,bw hm0]
   exact z3
  refine fin b (b::(Ga++Fd++Gb)) w' m hbF hu hsize hos htape hout ?_ ?_ ?_ (fun h=>by rw[hne]at h;cases h)
  ·unfold cO
   simp only
   rw[bw hbox]
   have hS':∀ x,S x→S x∧w'.heap[x]? = w.heap[x]?:=fun x hx=>⟨hx,hu.other x fun e=>h.notSd hc b hbF (e ▸ hx)⟩
   exact⟨b,c2,E0,Ga++Fd++Gb,hV,u2,rfl,by
    rw[hc2]
    exact m6 d dn hput S w' csn Fd hS' (fun x hx=>hu.other x (hbG x (.inl hx))) (fun x hx=>hu.other x (hbG x (.inr hx))) (RepB.frame hS' hr fun x hx=>hu.other x fun e=>hFd x hx (e ▸ hbF))⟩
  ·refine List.nodup_cons.2 ⟨fun hx=>?_,aF.2 ⟨aF.2 ⟨h7.1,hLn.1,fun x hx y hy e=>hFd y hy (e ▸ hFs x (.inl hx))⟩,h6.2.1,fun x hx y hy e=>?_⟩⟩
   ·rcases aE.1 hx with hx | hx
    ·rcases aE.1 hx with hx | hx
     ·exact hbG b (.inl hx) rfl
     ·exact hFd b hx hbF
    ·exact hbG b (.inr hx) rfl
   ·rcases aE.1 hx with hx | hx
    ·exact h6.2.2 x (ax _ hx) y hy e
    ·exact hFd x hx (e ▸ hFs y (.inr hy))
  ·intro x hx
   rcases aO.1 hx with rfl | hx
   ·exact .inr hbF
   ·rcases aE.1 hx with hx | hx
    ·rcases aE.1 hx with hx | hx
     ·exact .inr (hFs x (.inl hx))
     ·exact .inl hx
    ·exact .inr (hFs x (.inr hx))
 ·have hcur':g=(σ.slot s).gen:=by
   unfold kr at hcur;rw[hne]at hcur;exact cn hcur
  obtain⟨d1,cs,ad,d',cs',b,o,k1,k2,k3,rfl⟩:=hp.2.2 hne hcur'
  rw[hc]at k1;cases k1
  have main:∀ (F':List Nat) (pre:List Nat),F s=pre++F'→RepB S w d0.b d0.x cs F' →
    (∀ (w':World) (Fn:List Nat),(∀ x∈pre,w'.heap[x]? = w.heap[x]?)→RepB S w' dn.b dn.x cs Fn→cO S w' (upd σ.slot s ⟨(σ.slot s).gen+1,(σ.slot s).born,(σ.slot s).box,bif cZ p then none else(σ.slot s).orig,.data dn⟩) (upd V s (V s)) ⟨(σ.slot s).gen+1,(σ.slot s).born,(σ.slot s).box,bif cZ p then none else(σ.slot s).orig,.data dn⟩ (V s) (pre++Fn)) →
    (∀ w',(∀ x∈pre,w'.heap[x]? = w.heap[x]?)→∀ cs ad,Root w' (σ.slot s) (V s) cs ad→Root w (σ.slot s) (V s) cs ad) →
    ((σ.slot s).box=true→∃ b0∈pre,V s = .pointer (some ⟨b0,0,none⟩)) →
    ∃ b' o' c E0 fz,Value.pointer (some ⟨b,o,none⟩) = .pointer (some ⟨b',o',none⟩)∧w.heap[b']? = some (.cells c E0 fz)∧jo fz c.size∧o'+n≤c.size ∧
   ∀ w',Upd w w' b' o' csn→w'.heap.size=w.heap.size→w'.os=w.os→w'.tape=w.tape→w'.output=w.output→(∃ F',Ok C (σ.setS s ⟨(σ.slot s).gen+1,(σ.slot s).born,(σ.slot s).box,bif cZ p then none else(σ.slot s).orig,.data dn⟩) a w' S F' V∧Loose C w' S F' L)∧(pW p off=true→(σ.slot s).box=true→∀ u,fd w true (V s) u→fd w' true (V s) u):=by
   intro F' pre hpre q2 hslot hroot hown
   rw[hpre]at hnd
   have hnp:=aF.1 hnd
   obtain⟨Fa',Fc,Fb,r1,r2,r3,r4⟩:=gU _ _ _ _ _ _ _ _ k3 q2 hnp.2.1
   rw[hg0]at r3;cases r3
   obtain⟨b',o',t1,t2,⟨c,E0,fz,t3,tf,t4,t5⟩,t6⟩:=r4 hne
   cases t1
   have hcl:cs'.length=n:=(RepB.len r2).trans hsz
   refine⟨b,o,c,E0,fz,rfl,t3,tf,by rw[← hcl];exact t5,fun w' hu hsize hos htape hout=>?_⟩
   have hbF':b∈F':=by rw[r1];exact ax _ (ax _ t2)
   have hbF:b∈F s:=by rw[hpre];exact ay _ hbF'
   have hsF:∀ x∈F',x∈F s:=fun x hx=>by rw[hpre];exact ay _ hx
   have hS':∀ x,S x→S x∧w'.heap[x]? = w.heap[x]?:=fun x hx=>⟨hx,hu.other x fun e=>h.notSd hc b hbF (e ▸ hx)⟩
   have hFd:∀ x∈Fd,x∉F s:=fun x hx hx'=>hL.apart s x hx' (ax _ hx)
   have hnew:=t6 d dn hput S w' csn Fd (by rw[hn,hcl]) hu hS' (RepB.frame hS' hr fun x hx=>hu.other x fun e=>hFd x hx (e ▸ hbF))
   have hnd':=hnp.2.1
   rw[r1]at hnd'
   have h6:=aF.1 hnd'
   have h7:=aF.1 h6.1
   have hFs:∀ x,x∈Fa'∨x∈Fb→x∈F':=by
    intro x hx;rw[r1];rcases hx with hx | hx <;> simp[hx]
   have hndn:(Fa'++Fd++Fb).Nodup:=aF.2 ⟨aF.2 ⟨h7.1,hLn.1,fun x hx y hy e=>hFd y hy (e ▸ hsF x (hFs x (.inl hx)))⟩,h6.2.1,fun x hx y hy e=>by
    rcases aE.1 hx with hx | hx
    ·exact h6.2.2 x (ax _ hx) y hy e
    ·exact hFd x hx (e ▸ hsF y (hFs y (.inr hy)))⟩
   have hsubn:∀ x∈Fa'++Fd++Fb,x∈Fd∨x∈F':=by
    intro x hx
    rcases aE.1 hx with hx | hx
    ·rcases aE.1 hx with hx | hx
     ·exact .inr (hFs x (.inl hx))
     ·exact .inl hx
    ·exact .inr (hFs x (.inr hx))
   have hpb:∀ x∈pre,w'.heap[x]? = w.heap[x]?:=fun x hx=>hu.other x fun e=>hnp.2.2 x hx b hbF' e
   refine⟨?_,fun _ hbx u hu0=>?_⟩
   rotate_left
   ·obtain⟨b0,hb0,hV0⟩:=hown hbx
    obtain⟨bu,cu,Eu,fu,z1,z2,z3⟩:=hu0
    rw[hV0]at z1
    cases z1
    exact⟨b0,cu,Eu,fu,hV0,(hpb b0 hb0).trans z2,z3⟩
   refine fin b (pre++(Fa'++Fd++Fb)) w' o hbF hu hsize hos htape hout (hslot w' _ hpb hnew) ?_ ?_ (fun _=>hroot w' hpb)
   ·refine aF.2 ⟨hnp.1,hndn,fun x hx y hy e=>?_⟩
    rcases hsubn y hy with hy | hy
    ·exact hFd y hy (by rw[hpre,← e];exact ax _ hx)
    ·exact hnp.2.2 x hx y hy e
   ·intro x hx
    rcases aE.1 hx with hx | hx
    ·exact .inr (by rw[hpre];exact ax _ hx)
    ·exact(hsubn x hx).imp id (hsF x)
  unfold cO at hs
  rw[hc]at hs
  simp only at hs
  unfold Root at k2
  rcases Bool.eq_false_or_eq_true (σ.slot s).box with hbox | hbox
  ·rw[bw hbox]at hs k2
   obtain⟨b0,cc,E',F0',e1,e2,e3,e4⟩:=hs
   obtain⟨b1,c1,E1,g1,g2,rfl,g4⟩:=k2
   rw[e1]at g1;cases g1
   rw[e2]at g2;cases g2
   refine main F0' [b0] e3 e4 (fun w' Fn hpre hrep=>?_) (fun w' hpre cs ad hrt=>?_) (fun _=>⟨b0,by simp,e1⟩)
   ·unfold cO
    simp only
    rw[bw hbox]
    exact⟨b0,cc,E',Fn,e1,(hpre b0 (by simp)).trans e2,rfl,hrep⟩
   ·unfold Root at hrt ⊢
    rw[bw hbox]at hrt ⊢
    obtain⟨b2,c2,E2,v1,v2,v3,v4⟩:=hrt
    rw[e1]at v1;cases v1
    rw[hpre b0 (by simp)]at v2
    exact⟨b0,c2,E2,e1,v2,v3,v4⟩
  ·rw[bz (by rw[hbox];decide)]at hs k2
   obtain⟨rfl,rfl⟩:=k2
   refine main (F s) [] rfl hs.1 (fun w' Fn hpre hrep=>?_) (fun w' hpre cs ad hrt=>?_) (fun hb=>by rw[hbox]at hb;cases hb)
   ·unfold cO
    simp only
    rw[bz (by rw[hbox];decide)]
    refine⟨hrep,?_⟩
    cases p with
    | nil=>cases hne
    | cons st p=>exact La hput hs.2
   ·unfold Root at hrt ⊢
    rw[bz (by rw[hbox];decide)]at hrt ⊢
    exact hrt
theorem U0{s:Nat}{p:cT}{off g:Nat}{k:Bool}{d:DV E.G.T}(hm:(xO (E:=E) s p off g k d).run Fa σ=some ((),σ1)):σ1.pin=σ.pin∧∀ s',s'≠s→σ1.slot s'=σ.slot s':=by
 change M.run Fa (match (σ.slot s).cont with
  | .data d1=>need (gS (σ.slot s) p off g d1) (match put E.G d p d1 with
   | some d'=>.setS s { σ.slot s with gen:=(σ.slot s).gen+1,orig:=bif k then(σ.slot s).orig else(bif cZ p then none else(σ.slot s).orig),cont:=.data d' } (.ret ())
   | none=>.fail)
  | _=>.fail) σ=some ((),σ1)at hm
 cases hc:(σ.slot s).cont with
 | dead=>rw[hc]at hm;exact aA (F:=Fa) hm
 | word _=>rw[hc]at hm;exact aA (F:=Fa) hm
 | frz _=>rw[hc]at hm;exact aA (F:=Fa) hm
 | data d0 =>
  rw[hc]at hm
  obtain⟨_,hm2⟩:=aC hm
  cases hp:put E.G d p d0 with
  | none=>rw[hp]at hm2;exact aA (F:=Fa) hm2
  | some d' =>
   rw[hp]at hm2
   cases hm2
   exact⟨rfl,fun s' hs=>by rw[St.setS_slot,cj _ _ hs]⟩
end
end
section
theorem uK(n:Int):IntKind.u16.wrap n=n%65536:=IntKind.wrap_u16 n
theorem uJ(n:Int):IntKind.i8.wrap n=(n+128)%256-128:=by
 simp[IntKind.wrap,IntKind.bits,IntKind.signed];omega
theorem uI(n:Int):IntKind.i16.wrap n=(n+32768)%65536-32768:=by
 simp[IntKind.wrap,IntKind.bits,IntKind.signed];omega
theorem iG(k:IntKind)(n:Int):k.wrap (k.wrap n)=k.wrap n:=by
 cases k
 ·rw[uJ,uJ];omega
 ·rw[uI,uI];omega
 ·rw[IntKind.wrap_i32,IntKind.wrap_i32];omega
 ·rw[IntKind.wrap_i64,IntKind.wrap_i64];omega
 ·rw[IntKind.wrap_u8,IntKind.wrap_u8];omega
 ·rw[uK,uK];omega
 ·rw[IntKind.wrap_u32,IntKind.wrap_u32];omega
 ·rw[IntKind.wrap_u64,IntKind.wrap_u64];omega
theorem LN(k:IntKind){a b:Int}(ha:k.wrap a=a)(h:(0≤b∧b≤a)∨(a≤b∧b≤0)):k.wrap b=b:=by
 cases k
 ·rw[uJ]at *;omega
 ·rw[uI]at *;omega
 ·rw[IntKind.wrap_i32]at *;omega
 ·rw[IntKind.wrap_i64]at *;omega
 ·rw[IntKind.wrap_u8]at *;omega
 ·rw[uK]at *;omega
 ·rw[IntKind.wrap_u32]at *;omega
 ·rw[IntKind.wrap_u64]at *;omega
theorem Zh(k:IntKind){a:Int}(b:Int)(ha:k.wrap a=a):k.wrap (a.tmod b)=a.tmod b:=by
 refine LN k ha ?_
 have h1:(a.tmod b).natAbs≤a.natAbs:=by rw[Int.natAbs_tmod];exact Nat.mod_le _ _
 rcases Int.le_total 0 a with h | h
 ·have h2:=Int.tmod_nonneg b h
  left;omega
 ·have h2:0≤(-a).tmod b:=Int.tmod_nonneg b (by omega)
  rw[Int.neg_tmod]at h2
  right;omega
theorem Zg(k:IntKind){a:Int}(n:Nat)(ha:k.wrap a=a):k.wrap (a.fdiv (2 ^ n))=a.fdiv (2 ^ n):=by
 refine LN k ha ?_
 have hp:(0:Int)<2 ^ n:=Int.pow_pos (by decide)
 rw[Int.fdiv_eq_ediv_of_nonneg _ (Int.le_of_lt hp)]
 rcases Int.le_total 0 a with h | h
 ·exact .inl ⟨Int.ediv_nonneg h (Int.le_of_lt hp),Int.ediv_le_self _ h⟩
 ·right
  refine⟨?_,?_⟩
  ·have h1:a*2 ^ n≤a:=by
    have:(1:Int)≤2 ^ n:=hp
    calc a*2 ^ n≤a*1:=Int.mul_le_mul_of_nonpos_left h this
     _=a:=by omega
   rw[Int.le_ediv_iff_mul_le hp];exact h1
  ·have:a/2 ^ n<1:=Int.ediv_lt_of_lt_mul hp (by omega)
   omega
theorem dP{v:Value}(h:∀ cs,v ≠ .agg cs):v.cells.toList=[v]:=by
 cases v <;> first | rfl | exact absurd rfl (h _)
section
variable {G:Gam} {S:Nat→Prop} {w:World} {sl:Nat→Slot G} {V:Nat→Value} {o:Bool} {v:Value}
theorem qc{k:IntKind}{n:Int}(h:b9 S w sl V (.val ⟨.leaf o (.int k),n⟩) v):v = .int k n∧k.wrap n=n:=by
 obtain⟨h1,h2,_⟩:=h
 have h3:=repE_int.1 h1
 rw[dP h2]at h3
 exact⟨by simpa using h3.1,h3.2.1⟩
theorem qb{b:Bool}(h:b9 S w sl V (.val ⟨.leaf o .bool,b⟩) v):v = .bool b:=by
 obtain⟨h1,h2,_⟩:=h
 have h3:=repE_bool.1 h1
 rw[dP h2]at h3
 simpa using h3.1
theorem nO{l:List Int}(h:b9 S w sl V (.val ⟨.leaf o .str,l⟩) v):∃ s:ByteArray,v = .string s∧l=ct s∧s.size≤9223372036854775807:=by
 obtain⟨h1,h2,_⟩:=h
 obtain⟨s,h3,h4,_,h5⟩:=repE_str.1 h1
 rw[dP h2]at h3
 exact⟨s,by simpa using h3,h4,h5⟩
theorem eb{k:IntKind}{n:Int}(h:k.wrap n=n):b9 S w sl V (vI k n) (.int k n):=⟨repE_int.2 ⟨rfl,h,rfl⟩,fun cs h=>(by cases h),rfl⟩
theorem ek{b:Bool}:b9 S w sl V (vB b) (.bool b):=⟨repE_bool.2 ⟨rfl,rfl⟩,fun cs h=>(by cases h),rfl⟩
theorem qd{s:ByteArray}(h:s.size≤9223372036854775807):b9 S w sl V (vS (ct s)) (.string s):=⟨repE_str.2 ⟨s,rfl,rfl,rfl,h⟩,fun cs h=>(by cases h),rfl⟩
end
theorem fR(s:ByteArray):(ct s).length=s.size:=by simp[ct]
theorem LG{a b:UInt8}(h:(a.toNat:Int)=(b.toNat:Int)):a=b:=UInt8.toNat_inj.1 (by exact_mod_cast h)
theorem TY{l m:List UInt8}(h:(l.map fun b=>(b.toNat:Int))=m.map fun b=>(b.toNat:Int)):l=m:=by
 induction l generalizing m with
 | nil=>cases m with
  | nil=>rfl
  | cons _ _=>cases h
 | cons a l ih=>cases m with
  | nil=>cases h
  | cons b m =>
   simp only[bj,List.cons.injEq]at h
   rw[LG h.1,ih h.2]
theorem M6(s t:ByteArray):ct (s++t)=ct s++ct t:=by
 simp[ct,ByteArray.data_append]
theorem TP(l m:List UInt8):ltS (l.map fun b=>(b.toNat:Int)) (m.map fun b=>(b.toNat:Int))=Op.bytesLess l m:=by
 induction l generalizing m with
 | nil=>cases m <;> rfl
 | cons a l ih=>cases m with
  | nil=>rfl
  | cons b m =>
   simp only[bj,ltS,Op.bytesLess,ih]
   congr 1
   ·rw[Bool.eq_iff_iff];simp[UInt8.lt_iff_toNat_lt]
   ·congr 1
    rw[Bool.eq_iff_iff]
    simp only[decide_eq_true_eq,beq_iff_eq]
    exact⟨LG,fun h=>by rw[h]⟩
theorem It(l m:List UInt8):(Op.bytesLess l m||l==m) = !Op.bytesLess m l:=by
 induction l generalizing m with
 | nil=>cases m <;> rfl
 | cons a l ih=>cases m with
  | nil=>rfl
  | cons b m =>
   simp only[Op.bytesLess]
   have h1:=ih m
   rcases Nat.lt_trichotomy a.toNat b.toNat with h | h | h
   ·have e1:decide (a<b)=true:=by simpa [UInt8.lt_iff_toNat_lt]using h
    have e2:decide (b<a)=false:=by simp[UInt8.lt_iff_toNat_lt];omega
    have e3:(b==a)=false:=by simp only[beq_eq_false_iff_ne];intro e;rw[e]at h;omega
    simp[e1,e2,e3]
   ·have e0:a=b:=UInt8.toNat_inj.1 h
    subst e0
    simp[← h1]
   ·have e1:decide (a<b)=false:=by simp[UInt8.lt_iff_toNat_lt];omega
    have e2:decide (b<a)=true:=by simpa [UInt8.lt_iff_toNat_lt]using h
    have e3:(a==b)=false:=by simp only[beq_eq_false_iff_ne];intro e;rw[e]at h;omega
    have e4:(a::l==b::m)=false:=by simp only[beq_eq_false_iff_ne];intro e;cases e;omega
    simp[e1,e2,e3,e4]
theorem toL(s:ByteArray):s.toList=s.data.toList:=by
 have:=Go.ByteArray.toList_eq s
 exact this
theorem sB(s t:ByteArray):ltS (ct s) (ct t)=Op.bytesLess s.toList t.toList:=by
 rw[toL,toL];exact TP _ _
theorem GV(s t:ByteArray):decide (ct s=ct t)=(s.toList==t.toList):=by
 rw[toL,toL,Bool.eq_iff_iff]
 simp only[decide_eq_true_eq,beq_iff_eq]
 exact⟨fun h=>TY h,fun h=>by unfold ct;rw[h]⟩
section
variable {E:Env} {Fa:cr E.Z} {σ σ1:St E.G} {w:World} {S:Nat→Prop} {V:Nat→Value} {sl:Nat→Slot E.G} {P:Program}
theorem MV{op:BinOp}{t:TypeId}{k k':IntKind}{a b:Int}(ha:k.wrap a=a){r:bX E}(h:(F7 (E:=E) op k k' a b).run Fa σ=some (r,σ1)) :
  σ1=σ∧∃ v,(binOp op t (.int k a) (.int k' b)).run P w = .ok v w∧b9 S w sl V r v:=by
 cases op
 case shl =>
  obtain⟨h1,h2⟩:=M.run_chk h
  obtain⟨rfl,rfl⟩:=aB (F:=Fa) h2
  refine⟨rfl,.int k (ez k a b),?_,eb (iG _ _)⟩
  simp[binOp,Op.shift,show ¬ b<0 by omega,ez]
 case shr =>
  obtain⟨h1,h2⟩:=M.run_chk h
  obtain⟨rfl,rfl⟩:=aB (F:=Fa) h2
  refine⟨rfl,.int k (j4 k a b),?_,eb (Zg k _ ha)⟩
  simp[binOp,Op.shift,show ¬ b<0 by omega,j4]
 all_goals
  obtain⟨hk,g⟩:=aC h
  clear h
  have hk':k=k':=by simpa using hk
  subst hk'
 case add=>obtain⟨rfl,rfl⟩:=aB (F:=Fa) g;exact⟨rfl,_,by simp[binOp,Op.intArith],eb (iG _ _)⟩
 case sub=>obtain⟨rfl,rfl⟩:=aB (F:=Fa) g;exact⟨rfl,_,by simp[binOp,Op.intArith],eb (iG _ _)⟩
 case mul=>obtain⟨rfl,rfl⟩:=aB (F:=Fa) g;exact⟨rfl,_,by simp[binOp,Op.intArith],eb (iG _ _)⟩
 case quo=>obtain⟨h1,g⟩:=M.run_chk g;obtain⟨rfl,rfl⟩:=aB (F:=Fa) g;exact⟨rfl,_,by simp[binOp,Op.intDiv,h1],eb (iG _ _)⟩
 case rem=>obtain⟨h1,g⟩:=M.run_chk g;obtain⟨rfl,rfl⟩:=aB (F:=Fa) g;exact⟨rfl,_,by simp[binOp,Op.intDiv,h1],eb (Zh _ _ ha)⟩
 case and=>obtain⟨rfl,rfl⟩:=aB (F:=Fa) g;exact⟨rfl,_,by simp[binOp,intBits_and],eb (iG _ _)⟩
 case or=>obtain⟨rfl,rfl⟩:=aB (F:=Fa) g;exact⟨rfl,_,by simp[binOp,intBits_or],eb (iG _ _)⟩
 case xor=>obtain⟨rfl,rfl⟩:=aB (F:=Fa) g;exact⟨rfl,_,by simp[binOp,intBits_xor],eb (iG _ _)⟩
 case andNot=>obtain⟨rfl,rfl⟩:=aB (F:=Fa) g;exact⟨rfl,_,by simp[binOp,intBits_andNot],eb (iG _ _)⟩
 case eql=>obtain⟨rfl,rfl⟩:=aB (F:=Fa) g;exact⟨rfl,.bool (decide (a=b)),by simp[binOp,Op.intCmp];rw[Bool.eq_iff_iff];simp,ek⟩
 case neq=>obtain⟨rfl,rfl⟩:=aB (F:=Fa) g;exact⟨rfl,.bool (!decide (a=b)),by simp[binOp,Op.intCmp];rw[Bool.eq_iff_iff];simp,ek⟩
 case lss=>obtain⟨rfl,rfl⟩:=aB (F:=Fa) g;exact⟨rfl,.bool (decide (a<b)),by simp[binOp,Op.intCmp],ek⟩
 case leq=>obtain⟨rfl,rfl⟩:=aB (F:=Fa) g;exact⟨rfl,.bool (decide (a≤b)),by simp[binOp,Op.intCmp],ek⟩
 case gtr=>obtain⟨rfl,rfl⟩:=aB (F:=Fa) g;exact⟨rfl,.bool (decide (a>b)),by simp[binOp,Op.intCmp],ek⟩
 case geq=>obtain⟨rfl,rfl⟩:=aB (F:=Fa) g;exact⟨rfl,.bool (decide (a≥b)),by simp[binOp,Op.intCmp],ek⟩
theorem MU{op:BinOp}{t:TypeId}(ht:P.underlying t=some .bool){a b:Bool}{r:bX E}(h:(F6 (E:=E) op a b).run Fa σ=some (r,σ1)) :
  σ1=σ∧∃ v,(binOp op t (.bool a) (.bool b)).run P w = .ok v w∧b9 S w sl V r v:=by
 cases op
 case eql=>obtain⟨rfl,rfl⟩:=aB (F:=Fa) h;exact⟨rfl,.bool (decide (a=b)),by simp only[binOp,Sem.run_bind,run_equal_bool w t a b ht,aS,Sem.run_pure];cases a <;> cases b <;> rfl,ek⟩
 case neq=>obtain⟨rfl,rfl⟩:=aB (F:=Fa) h;exact⟨rfl,.bool (!decide (a=b)),by simp only[binOp,Sem.run_bind,run_equal_bool w t a b ht,aS,Sem.run_pure];cases a <;> cases b <;> rfl,ek⟩
 all_goals exact aA (F:=Fa) h
theorem MX{op:BinOp}{t:TypeId}{s u:ByteArray}(hs:s.size≤9223372036854775807){r:bX E}(h:(F8 (E:=E) op (ct s) (ct u)).run Fa σ=some (r,σ1)) :
  σ1=σ∧∃ v,(binOp op t (.string s) (.string u)).run P w = .ok v w∧b9 S w sl V r v:=by
 cases op
 case add =>
  obtain⟨h1,h⟩:=M.run_chk h
  obtain⟨rfl,rfl⟩:=aB (F:=Fa) h
  rw[fR,fR]at h1
  have e:IntKind.i64.max=9223372036854775807:=by decide
  refine⟨rfl,.string (s++u),?_,?_⟩
  ·have:¬ (((s.size+u.size:Nat):Int)>IntKind.i64.max):=by rw[e];omega
   simp only[binOp,Op.stringOp]
   rw[bz this];rfl
  ·rw[← M6]
   exact qd (by rw[ByteArray.size_append];exact h1)
 case eql=>obtain⟨rfl,rfl⟩:=aB (F:=Fa) h;exact⟨rfl,.bool (decide (ct s=ct u)),by rw[GV];rfl,ek⟩
 case neq=>obtain⟨rfl,rfl⟩:=aB (F:=Fa) h;exact⟨rfl,.bool (!decide (ct s=ct u)),by rw[GV];rfl,ek⟩
 case lss=>obtain⟨rfl,rfl⟩:=aB (F:=Fa) h;exact⟨rfl,.bool (ltS (ct s) (ct u)),by rw[sB];rfl,ek⟩
 case leq=>obtain⟨rfl,rfl⟩:=aB (F:=Fa) h;exact⟨rfl,.bool (!ltS (ct u) (ct s)),by rw[sB,← It];rfl,ek⟩
 case gtr=>obtain⟨rfl,rfl⟩:=aB (F:=Fa) h;exact⟨rfl,.bool (ltS (ct u) (ct s)),by rw[sB,← Bool.not_not (Op.bytesLess _ _),← It];rfl,ek⟩
 case geq=>obtain⟨rfl,rfl⟩:=aB (F:=Fa) h;exact⟨rfl,.bool (!ltS (ct s) (ct u)),by rw[sB];rfl,ek⟩
 all_goals exact aA (F:=Fa) h
theorem jA{g:Sem Unit}{s:Sem Value}{v:Value}(hg:g.run P w = .ok () w)(hs:s.run P w = .ok v w):(do g;s:Sem Value).run P w = .ok v w:=by
 rw[Sem.run_bind,hg];exact hs
theorem vW{op:BinOp}{t:TypeId}{x y:Operand}{a b:Value}(ha:(∃ k n,a = .int k n)∨(∃ c,a = .bool c)∨∃ s,a = .string s):(eqGuard op t x y a b).run P w = .ok () w:=by
 rcases ha with ⟨k,n,rfl⟩ | ⟨c,rfl⟩ | ⟨s,rfl⟩ <;> (unfold eqGuard;split <;> simp)
theorem MW{c:Bool}{op:BinOp}{t:TypeId}(hTT:∀ t ft,E.ty t=some ft→dh E.G P E.ty t ft=true){xo yo:Operand}(hc:c=true→mf P t=true∧(nE xo=true∨nE yo=true)){x y r:bX E}{a b:Value}(hx:b9 S w sl V x a)(hy:b9 S w sl V y b)(h:(vn (E:=E) c op (E.ty t) x y).run Fa σ=some (r,σ1)) :
  σ1=σ∧∃ v,(do eqGuard op t xo yo a b;binOp op t a b:Sem Value).run P w = .ok v w∧b9 S w sl V r v:=by
 unfold vn at h
 split at h
 ·obtain⟨rfl,h1⟩:=qc hx
  obtain⟨rfl,h2⟩:=qc hy
  obtain⟨e,v,h3,h4⟩:=MV (P:=P) (w:=w) (S:=S) (V:=V) (sl:=sl) (t:=t) h1 h
  exact⟨e,v,jA (vW (.inl ⟨_,_,rfl⟩)) h3,h4⟩
 ·have h1:=qb hx
  have h2:=qb hy
  subst h1;subst h2
  obtain⟨hb,h⟩:=aC h
  have hbt:E.ty t=some .bool:=by
   cases he:E.ty t with
   | none=>rw[he]at hb;cases hb
   | some ft=>rw[he]at hb;cases ft <;> first | rfl | cases hb
  obtain⟨i,z,hok⟩:=TyOK.of (hTT _ _ hbt)
  obtain⟨e,v,h3,h4⟩:=MU hok.desc (P:=P) (w:=w) (S:=S) (V:=V) (sl:=sl) (t:=t) h
  exact⟨e,v,jA (vW (.inr (.inl ⟨_,rfl⟩))) h3,h4⟩
 ·obtain⟨s,rfl,h1,h2⟩:=nO hx
  obtain⟨u,rfl,h3,h4⟩:=nO hy
  subst h1;subst h3
  obtain⟨e,v,h5,h6⟩:=MX (P:=P) (w:=w) (S:=S) (V:=V) (sl:=sl) (t:=t) h2 h
  exact⟨e,v,jA (vW (.inr (.inr ⟨_,rfl⟩))) h5,h6⟩
 ·rename_i e l
  obtain⟨hs,h⟩:=aC h
  have hs':E.ty t=some (.sl e):=by
   unfold gx at hs
   split at hs
   ·rename_i e' ht
    rw[ht]
    cases hq:FT.eq? e' e with
    | none=>rw[hq]at hs;cases hs
    | some q=>rw[q.down]
   ·cases hs
  obtain⟨i,z,hok⟩:=TyOK.of (hTT _ _ hs')
  obtain⟨et,hu,_⟩:=hok.desc
  have h1:RepE (G:=E.G) S w false (.sl e) l a.cells.toList []:=hx.1
  have h2:∀ cs,a ≠ .agg cs:=hx.2.1
  have hb:b = .slice none 0 0:=hy
  subst hb
  obtain⟨base,n,c,rfl,hne⟩:∃ base n c,a = .slice base n c∧(l≠([]:List (J E.G.T e))→base≠none):=by
   have hc:∀ u,a.cells.toList=[u]→a=u:=fun u hu=>by cases a <;> simp[Value.cells]at hu <;> first | exact hu | exact absurd rfl (h2 _)
   rcases repE_sl.1 h1 with ⟨⟨base,cap,k1,_⟩,e0,_⟩ | ⟨b',off,cap,c,E0,fz,F',k1,_⟩
   ·exact⟨base,0,cap,hc _ k1,fun hn=>absurd e0 hn⟩
   ·exact⟨some ⟨b',off,none⟩,_,cap,hc _ k1,fun _ h=>by cases h⟩
  have run1:(do eqGuard .eql t xo yo (.slice base n c) (.slice none 0 0);binOp .eql t (.slice base n c) (.slice none 0 0):Sem Value).run P w = .ok (.bool base.isNone) w:=by
   refine jA (by unfold eqGuard;simp) (Lib.run_eql_slice_nil w t et base n c 0 0 hu)
  have run2:(do eqGuard .neq t xo yo (.slice base n c) (.slice none 0 0);binOp .neq t (.slice base n c) (.slice none 0 0):Sem Value).run P w = .ok (.bool (!base.isNone)) w:=by
   refine jA (by unfold eqGuard;simp) ?_
   simp only[binOp]
   simp[Op.equal,Op.maxDepth,Lib.run_equalIn_slice_nil w 9999 t et base n c 0 0 hu]
  split at h
  ·cases hz:Nat.beq (List.length (α:=J E.G.T e) l) 0 with
   | true=>rw[hz]at h;replace h:(M.ret .ind:ME E (bX E)).run Fa σ=some (r,σ1):=h;obtain⟨rfl,rfl⟩:=aB (F:=Fa) h;exact⟨rfl,_,run1,_,rfl⟩
   | false =>
    rw[hz]at h;replace h:(M.ret (vB false):ME E (bX E)).run Fa σ=some (r,σ1):=h;obtain⟨rfl,rfl⟩:=aB (F:=Fa) h
    refine⟨rfl,_,run1,?_⟩
    have:base≠none:=hne fun e0=>by subst e0;cases hz
    cases base with
    | none=>exact absurd rfl this
    | some b=>exact ek
  ·cases hz:Nat.beq (List.length (α:=J E.G.T e) l) 0 with
   | true=>rw[hz]at h;replace h:(M.ret .ind:ME E (bX E)).run Fa σ=some (r,σ1):=h;obtain⟨rfl,rfl⟩:=aB (F:=Fa) h;exact⟨rfl,_,run2,_,rfl⟩
   | false =>
    rw[hz]at h;replace h:(M.ret (vB true):ME E (bX E)).run Fa σ=some (r,σ1):=h;obtain⟨rfl,rfl⟩:=aB (F:=Fa) h
    refine⟨rfl,_,run2,?_⟩
    have:base≠none:=hne fun e0=>by subst e0;cases hz
    cases base with
    | none=>exact absurd rfl this
    | some b=>exact ek
  ·exact aA (F:=Fa) h
 ·obtain⟨hcc,h'⟩:=aC h
  obtain⟨hi,hk⟩:=hc hcc
  have ha:a = .nilIface:=hx
  have hb:b = .nilIface:=hy
  subst ha;subst hb
  have run:=Vo 9999 hi w
  have grd:=Vp (P:=P) (op:=op) (t:=t) hk w
  cases op
  case eql=>obtain⟨rfl,rfl⟩:=aB (F:=Fa) h';exact⟨rfl,.bool true,jA grd (by simp[binOp,Op.equal,Op.maxDepth,run]),ek⟩
  case neq=>obtain⟨rfl,rfl⟩:=aB (F:=Fa) h';exact⟨rfl,.bool false,jA grd (by simp[binOp,Op.equal,Op.maxDepth,run]),ek⟩
  all_goals exact aA (F:=Fa) h'
 ·rename_i n a' o' m b'
  obtain⟨hs,h⟩:=aC h
  have hs':E.ty t=some (.nm n):=by
   unfold Ii at hs
   split at hs
   ·rename_i m' ht;rw[ht,cn hs]
   ·cases hs
  split at h
  ·rename_i hh _
   have hmn':m=n:=by injection hh
   subst hmn'
   obtain⟨q,σ2,h1,h'⟩:=az h
   obtain⟨hq,rfl⟩:=M.run_lift h1
   obtain⟨ca,rfl⟩:∃ cs,a = .agg cs:=hx.2.1
   obtain⟨cb,rfl⟩:∃ cs,b = .agg cs:=hy.2.1
   have run:=Vm (fun t ft ht=>hTT t ft ht) hq hs' (show RepE S w _ _ _ ca.toList []from hx.1) (show RepE S w _ _ _ cb.toList []from hy.1)
   have grd:=Vn (P:=P) (fun t ft ht=>hTT t ft ht) hs'
   cases op
   case eql=>obtain⟨rfl,rfl⟩:=aB (F:=Fa) h';exact⟨rfl,_,jA (run_eqGuard_agg w _ _ _ _ _ _ grd) (by rw[run_eql_struct,run];rfl),ek⟩
   case neq=>obtain⟨rfl,rfl⟩:=aB (F:=Fa) h';exact⟨rfl,_,jA (run_eqGuard_agg w _ _ _ _ _ _ grd) (by rw[run_neq_struct,run];rfl),ek⟩
   all_goals exact aA (F:=Fa) h'
  ·exact aA (F:=Fa) h
 ·exact aA (F:=Fa) h
end
end
section
section
variable {G:Gam} {S:Nat→Prop} {w:World}
theorem ji:∀ (d:Nat),(∀ (ft:FT) (b:BT),shp G d ft b=true→b.sz G=ft.sz G.sz)∧(∀ (ts:List FT) (b:BT),en G d ts b=true→b.sz G=FT.szs G.sz ts):=by
 intro d
 induction d with
 | zero=>exact⟨fun ft b h=>by simp[shp]at h,fun ts b h=>by simp[en]at h⟩
 | succ d ih =>
  refine⟨fun ft b h=>?_,fun ts b h=>?_⟩
  ·cases b with
   | leaf o t' =>
    have h':(FT.eq? t' ft).isSome=true:=by cases ft <;> simpa only[shp]using h
    rw[← FT.eq?_some h'];rfl
   | hole n =>
    have h':Nat.beq n (ft.sz G.sz)=true:=by cases ft <;> simpa only[shp]using h
    exact cn h'
   | un=>cases ft with
    | nm n=>rw[ih.2 _ _ (by simpa only[shp]using h)];exact(G.sz_eq n).symm
    | _=>simp only[shp]at h;cases h
   | pr a c=>cases ft with
    | nm n=>rw[ih.2 _ _ (by simpa only[shp]using h)];exact(G.sz_eq n).symm
    | _=>simp only[shp]at h;cases h
   | sp e'=>cases ft with
    | nm n=>rw[ih.2 _ _ (by simpa only[shp]using h)];exact(G.sz_eq n).symm
    | sl e=>rfl
    | _=>simp only[shp]at h;cases h
   | fn k=>cases ft with
    | nm n=>rw[ih.2 _ _ (by simpa only[shp]using h)];exact(G.sz_eq n).symm
    | _=>simp only[shp]at h;cases h
  ·cases ts with
   | nil=>cases b <;> first | rfl | (simp only[en]at h;cases h)
   | cons t ts=>cases b with
    | pr a c =>
     simp only[en,aD]at h
     show a.sz G+c.sz G=_
     rw[ih.1 _ _ h.1,ih.2 _ _ h.2];rfl
    | _=>simp only[en]at h;cases h
theorem BE{d:Nat}{ts:List FT}{e:FT}(h:en G d ts (.sp e)=true){p:Prop}:p:=by
 cases d with
 | zero=>simp[en]at h
 | succ d=>cases ts <;> simp[en]at h
theorem BC{d:Nat}{ts:List FT}{k:Nat}(h:en G d ts (.fn k)=true){p:Prop}:p:=by
 cases d with
 | zero=>simp[en]at h
 | succ d=>cases ts <;> simp[en]at h
theorem ur{d:Nat}{ft:FT}{b:BT}(h:shp G d ft b=true)(hw:b.whole=true){v:Value}(h1:ft.isNm=true→∃ cs,v = .agg cs)(h0:ft.isNm=false→∀ cs,v ≠ .agg cs):Shaped b v:=by
 cases d with
 | zero=>simp[shp]at h
 | succ d =>
  cases b with
  | leaf o t' =>
   have h':(FT.eq? t' ft).isSome=true:=by cases ft <;> simpa only[shp]using h
   have e:=FT.eq?_some h'
   subst e
   cases t' with
   | nm n=>exact h1 rfl
   | int k=>exact h0 rfl
   | bool=>exact h0 rfl
   | str=>exact h0 rfl
   | ptr=>exact h0 rfl
   | sl e=>exact h0 rfl
  | hole n=>cases hw
  | un=>cases ft with
   | nm n=>exact h1 rfl
   | _=>simp only[shp]at h;cases h
  | pr a c=>cases ft with
   | nm n=>exact h1 rfl
   | _=>simp only[shp]at h;cases h
  | sp e'=>cases ft with
   | nm n=>exact BE (by simpa only[shp]using h)
   | sl e=>exact h0 rfl
   | _=>simp only[shp]at h;cases h
  | fn k=>cases ft with
   | nm n=>exact BC (by simpa only[shp]using h)
   | _=>simp only[shp]at h;cases h
theorem IX:∀ (i:Nat) (b:BT) (x:B G.T b) (n:Nat) (c:BT),fG G i b=some (n,c)→∃ y,nth i b x=some ⟨c,y⟩
 | 0,.pr a b,x,n,c,h=>by cases h;exact⟨_,rfl⟩
 | i+1,.pr a b,x,n,c,h=>by
  simp only[fG]at h
  cases hb:fG G i b with
  | none=>rw[hb]at h;cases h
  | some m=>rw[hb]at h;cases h;exact IX i b x.2 m.1 _ hb
 | 0,.leaf _ _,x,n,c,h=>b7 h
 | 0,.un,x,n,c,h=>b7 h
 | 0,.hole _,x,n,c,h=>b7 h
 | 0,.sp _,x,n,c,h=>b7 h
 | 0,.fn _,x,n,c,h=>b7 h
 | _+1,.leaf _ _,x,n,c,h=>b7 h
 | _+1,.un,x,n,c,h=>b7 h
 | _+1,.hole _,x,n,c,h=>b7 h
 | _+1,.sp _,x,n,c,h=>b7 h
 | _+1,.fn _,x,n,c,h=>b7 h
theorem BD:∀ (d:Nat) (ts:List FT) (b:BT) (i:Nat),en G d ts b=true→(hi:i<ts.length)→∃ bi d',fG G i b=some (FT.szs G.sz (ts.take i),bi)∧shp G d' ts[i] bi=true
 | d+1,t::ts,.pr a c,0,h,_=>by
  simp only[en,aD]at h
  exact⟨a,d,rfl,h.1⟩
 | d+1,t::ts,.pr a c,i+1,h,hi=>by
  simp only[en,aD]at h
  obtain⟨bi,d',h1,h2⟩:=BD d ts c i h.2 (by simpa using hi)
  refine⟨bi,d',?_,h2⟩
  simp only[fG,h1,List.take_succ_cons,FT.szs]
  rw[(ji d).1 _ _ h.1]
 | 0,_,_,_,h,_=>by simp[en]at h
 | d+1,[],_,_,_,hi=>by simp at hi
 | d+1,_::_,.leaf _ _,_,h,_=>by simp[en]at h
 | d+1,_::_,.un,_,h,_=>by simp[en]at h
 | d+1,_::_,.hole _,_,h,_=>by simp[en]at h
 | d+1,_::_,.sp _,_,h,_=>by simp[en]at h
 | d+1,_::_,.fn _,_,h,_=>by simp[en]at h
theorem xL(o:Bool):∀ (ts:List FT) (i:Nat),(hi:i<ts.length)→fG G i (prs o ts)=some (FT.szs G.sz (ts.take i),.leaf o ts[i])
 | t::ts,0,_=>rfl
 | t::ts,i+1,hi=>by
  show(match fG G i (prs o ts)with | some (n,c)=>some (BT.sz G (.leaf o t)+n,c) | none=>none)=_
  rw[xL o ts i (by simpa using hi)]
  rfl
theorem Lb{d:Nat}{n:Nat}{b:BT}(h:shp G d (.nm n) b=true){i:Nat}(hi:i<(G.fs n).length)(hb:∀ m,b ≠ .hole m):∃ bi d',fG G i (vX G b)=some (FT.szs G.sz ((G.fs n).take i),bi)∧shp G d' (G.fs n)[i] bi=true:=by
 cases d with
 | zero=>simp[shp]at h
 | succ d =>
  cases b with
  | leaf o t' =>
   have h':(FT.eq? t' (.nm n)).isSome=true:=by simpa only[shp]using h
   have e:=FT.eq?_some h'
   subst e
   exact⟨.leaf o (G.fs n)[i],1,xL o _ i hi,by simp only[shp];cases he:FT.eq? (G.fs n)[i] (G.fs n)[i] with
    | some _=>rfl
    | none=>exact absurd he (by
      have key:∀ t:FT,FT.eq? t t≠none:=by
       intro t
       induction t with
       | int k=>simp[FT.eq?]
       | bool=>simp[FT.eq?]
       | str=>simp[FT.eq?]
       | ptr=>simp[FT.eq?]
       | sl e ih=>unfold FT.eq?;split <;> simp_all
       | nm n=>simp[FT.eq?]
      exact key _)⟩
  | hole m=>exact absurd rfl (hb m)
  | un=>exact BD d (G.fs n) .un i (by simpa only[shp]using h) hi
  | sp e'=>exact BE (by simpa only[shp]using h)
  | fn k=>exact BC (by simpa only[shp]using h)
  | pr a c=>exact BD d (G.fs n) (.pr a c) i (by simpa only[shp]using h) hi
theorem nK:∀ (p q:cT) (d:DV G.T) (cs:List Value) (ad:Option (Nat×Nat)) {d':DV G.T} {cs':List Value} {ad':Option (Nat×Nat)},loc w p d cs ad=some (d',cs',ad')→loc w (p++q) d cs ad=loc w q d' cs' ad'
 | [],q,d,cs,ad,d',cs',ad',h=>by cases h;rfl
 | .fld i::p,q,d,cs,ad,d',cs',ad',h=>by
  simp only[loc,List.cons_append]at h ⊢
  split at h
  ·exact nK p q _ _ _ h
  ·exact b7 h
 | .el i::p,q,⟨b0,x0⟩,cs,ad,d',cs',ad',h=>by
  cases b0 with
  | leaf o t=>cases o with
   | true=>cases t with
    | sl e =>
     obtain⟨l,hl⟩:∃ l:List (J G.T e),l=x0:=⟨x0,rfl⟩
     subst hl
     match cs,h with
     | [.slice (some ⟨b,0,none⟩) n cap],h =>
      have h':(match w.heap[b]? with
       | some (.cells c _ _)=>if i<l.length then loc w p ⟨.leaf true e,l.getD i (cP G.zero e)⟩ ((c.toList.drop (i*e.sz G.sz)).take (e.sz G.sz)) (some (b,i*e.sz G.sz))else none
       | _=>none)=some (d',cs',ad'):=h
      show(match w.heap[b]? with
       | some (.cells c _ _)=>if i<l.length then loc w (p++q) ⟨.leaf true e,l.getD i (cP G.zero e)⟩ ((c.toList.drop (i*e.sz G.sz)).take (e.sz G.sz)) (some (b,i*e.sz G.sz))else none
       | _=>none)=loc w q d' cs' ad'
      split at h'
      ·split at h'
       ·rename_i hi;rw[bw hi];exact nK p q _ _ _ h'
       ·exact b7 h'
      ·exact b7 h'
    | _=>exact b7 h
   | false=>cases t <;> exact b7 h
  | _=>exact b7 h
theorem we:∀ (p q:cT) (d:DV G.T) {d':DV G.T},get G p d=some d'→get G (p++q) d=get G q d'
 | [],q,d,d',h=>by cases h;rfl
 | .fld i::p,q,d,d',h=>by
  rw[List.cons_append,kA]
  rw[kA]at h
  split at h
  ·exact we p q _ h
  ·exact b7 h
 | .el i::p,q,⟨b0,x0⟩,d',h=>by
  cases b0 with
  | leaf o t=>cases t with
   | sl e=>exact we p q _ h
   | _=>cases o <;> exact b7 h
  | _=>exact b7 h
theorem xv(p q:cT):cZ (p++q)=(cZ p&&cZ q):=by
 induction p with
 | nil=>rfl
 | cons s p ih=>cases s <;> simp[cZ,ih]
theorem Iy:∀ (p:cT) (d d':DV G.T) (cs:List Value) (F:List Nat) (ad:Option (Nat×Nat)),cZ p=true→RepB S w d.b d.x cs F→get G p d=some d' →
  ∃ n,kP G p d.b=some n∧loc w p d cs ad=some (d',(cs.drop n).take (d'.b.sz G),ad.map fun a=>(a.1,a.2+n))
 | [],d,d',cs,F,ad,_,hr,h=>by
  cases h
  refine⟨0,rfl,?_⟩
  have:(cs.drop 0).take (d.b.sz G)=cs:=by rw[aQ,← RepB.len hr,List.take_length]
  rw[this]
  cases ad <;> rfl
 | .fld i::p,d,d',cs,F,ad,he,hr,h=>by
  rw[kA]at h
  have hr':=(kV d).1 hr
  cases hc:nth i (dp G d).b (dp G d).x with
  | none=>rw[hc]at h;exact b7 h
  | some c =>
  rw[hc]at h
  obtain⟨n,ca,cc,cb,Fa,Fc,Fb,e1,e2,e3,e4,e5,e6⟩:=jP i _ _ c cs F hc hr'
  have hm:(cs.drop n).take (c.b.sz G)=cc:=by rw[e2];exact fj e4 (RepB.len e5)
  obtain⟨m,g1,g2⟩:=Iy p c d' cc Fc (ad.map fun a=>(a.1,a.2+n)) he e5 h
  obtain⟨m',ca',cc',cb',Fa',Fc',Fb',k1,k2,k3,k4,k5,_⟩:=mt p c d' cc Fc he h e5
  rw[g1]at k1;cases k1
  refine⟨n+m,by simp[kP,nk,e1,g1],?_⟩
  simp only[loc,hc,e1,hm,g2]
  congr 2
  congr 1
  ·rw[k2,fj k4 (RepB.len k5),e2,k2]
   rw[show ca++(ca'++cc'++cb')++cb=(ca++ca')++cc'++(cb'++cb) by simp,fj (by rw[List.length_append,e4,k4]) (RepB.len k5)]
  ·cases ad <;> simp[Nat.add_assoc]
end
section
variable {E:Env} {Fa:cr E.Z} {C:Ctx} {σ σ1:St E.G} {a:Act} {w:World} {S:Nat→Prop} {F:Nat→List Nat} {V:Nat→Value} {fn:Fn}
theorem Ji(h:Ok C σ a w S F V){s:Nat}{p:cT}{off g:Nat}{vp:Value}(hp:b9 S w σ.slot V (.ptr s p off g) vp){d c:DV E.G.T}(hd:(σ.slot s).cont = .data d)(hok:gS (σ.slot s) p off g d=true)(hg:get E.G p d=some c) :
  ∃ b o cc E0 fz cs ad cs' Fc,vp = .pointer (some ⟨b,o,none⟩)∧w.heap[b]? = some (.cells cc E0 fz)∧(cc.toList.drop o).take cs'.length=cs'∧o+cs'.length≤cc.size∧Root w (σ.slot s) (V s) cs ad∧loc w p d cs ad=some (c,cs',some (b,o)) ∧
   RepB S w c.b c.x cs' Fc∧(∀ b∈Fc,b∈F s)∧cs'.length=c.b.sz E.G:=by
 simp only[gS,aD]at hok
 obtain⟨hcur,hoff⟩:=hok
 rcases Bool.eq_false_or_eq_true (cZ p)with hne | hne
 ·have hcur':(σ.slot s).born≤g:=by
   unfold kr at hcur;rw[hne]at hcur;exact aG hcur
  obtain⟨hbox,b,hV,rfl⟩:=hp.2.1 hne hcur'
  have hs:=h.slots s
  unfold cO at hs
  rw[hd]at hs
  simp only at hs
  rw[bw hbox]at hs
  obtain⟨b',cc,E0,F0',e1,e2,e3,e4⟩:=hs
  rw[hV]at e1;cases e1
  obtain⟨m,l1,l2⟩:=Iy p d c cc.toList F0' (some (b,0)) hne e4 hg
  rw[hne,l1]at hoff
  have hmo:m=off:=cn hoff
  subst hmo
  obtain⟨m',ca,cm,cb,Ga,Gc,Gb,m1,m2,m3,m4,m5,m6⟩:=mt p d c cc.toList F0' hne hg e4
  rw[l1]at m1;cases m1
  have hcm:(cc.toList.drop m).take (c.b.sz E.G)=cm:=by rw[m2];exact fj m4 (RepB.len m5)
  rw[hcm]at l2
  have hcsz:cc.size=ca.length+cm.length+cb.length:=by rw[← aJ,m2];simp[Nat.add_assoc]
  refine⟨b,m,cc,E0,(0,0),cc.toList,some (b,0),cm,Gc,rfl,e2,by rw[RepB.len m5];exact hcm,by omega,?_,by simpa using l2,m5,fun x hx=>by rw[e3,m3];simp[hx],RepB.len m5⟩
  unfold Root
  rw[bw hbox]
  exact⟨b,cc,E0,hV,e2,rfl,rfl⟩
 ·have hcur':g=(σ.slot s).gen:=by
   unfold kr at hcur;rw[hne]at hcur;exact cn hcur
  obtain⟨d1,cs,ad,d',cs',b,o,k1,k2,k3,rfl⟩:=hp.2.2 hne hcur'
  rw[hd]at k1;cases k1
  obtain⟨cs0,ad0,F',q1,q2,q3⟩:=mv (h.slots s) hd
  obtain⟨rfl,rfl⟩:=q1.eq k2
  obtain⟨Fa',Fc,Fb,r1,r2,r3,r4⟩:=gU _ _ _ _ _ _ _ _ k3 q2 ((h.nd s).sublist q3)
  rw[hg]at r3;cases r3
  obtain⟨b',o',t1,t2,⟨cc,E0,fz,t3,_,t4,t5⟩,t6⟩:=r4 hne
  cases t1
  exact⟨b,o,cc,E0,fz,cs,ad,cs',Fc,rfl,t3,t4,t5,k2,k3,r2,fun x hx=>q3.subset (by rw[r1];simp[hx]),RepB.len r2⟩
def Res(C:Ctx)(a:Act)(σ1:St E.G)(p:bX E)(s:Sem Value)(w:World):Prop :=
 ∃ v w',s.run C.P w = .ok v w'∧∃ S' F' V',Ok C σ1 a w' S' F' V'∧b9 S' w' σ1.slot V' p v
theorem qM{nm:Bool}{cs:List Value}(h1:∀ v∈cs,v.oneCell'=true)(hl:nm=false→cs.length=1):(eL nm cs).cells.toList=cs∧(nm=true→∃ c,eL nm cs = .agg c)∧(nm=false→∀ c,eL nm cs ≠ .agg c):=by
 cases nm with
 | true=>exact⟨by simp[eL,Value.cells],fun _=>⟨_,rfl⟩,fun h=>(by cases h)⟩
 | false =>
  match cs,hl rfl with
  | [v],_ =>
   have hv:=Ud (h1 v (by simp))
   exact⟨dP hv,fun h=>(by cases h),fun _=>hv⟩
theorem TL(hT:∀ t ft,E.ty t=some ft→dh E.G C.P E.ty t ft=true)(h:Ok C σ a w S F V){t:TypeId}{p q:bX E}{va:Value}(hp:b9 S w σ.slot V p va)(hm:(Ix (E:=E) (E.ty t) p).run Fa σ=some (q,σ1)):Res C a σ1 q (Instr.loadAt t va) w:=by
 cases p with
 | ptr s pth off g =>
  change M.run Fa (match (σ.slot s).cont with
   | .data d=>need (gS (σ.slot s) pth off g d) (match get E.G pth d,E.ty t with
    | some c,some ft=>need (shp E.G deep ft c.b&&c.b.whole) (bif c.b.cp E.G then .ret (.val (cpn c))else .ret (.ali s pth (σ.slot s).gen))
    | _,_=>.fail)
   | _=>.fail) σ=some (q,σ1)at hm
  cases hc:(σ.slot s).cont with
  | dead=>rw[hc]at hm;exact aA (F:=Fa) hm
  | word q0=>rw[hc]at hm;exact aA (F:=Fa) hm
  | frz q0=>rw[hc]at hm;exact aA (F:=Fa) hm
  | data d =>
   rw[hc]at hm
   obtain⟨hok,hm⟩:=aC hm
   cases hg:get E.G pth d with
   | none=>rw[hg]at hm;cases E.ty t <;> exact aA (F:=Fa) hm
   | some c =>
   cases ht:E.ty t with
   | none=>rw[hg,ht]at hm;exact aA (F:=Fa) hm
   | some ft =>
   rw[hg,ht]at hm
   obtain⟨hsh,hm⟩:=aC hm
   simp only[aD]at hsh
   obtain⟨i,z,hty⟩:=TyOK.of (hT t ft ht)
   obtain⟨b,o,cc,E0,fz,cs,ad,cs',Fc,rfl,k1,k2,k3,k4,k5,k6,k7,k8⟩:=Ji h hp hc hok hg
   have hsz:cs'.length=ft.sz E.G.sz:=k8.trans ((ji deep).1 _ _ hsh.1)
   have hrun:=sR hty w (off:=o) k1 (cs:=cs') (by rw[← hsz];exact k2) hsz
   obtain⟨v1,v2,v3⟩:=qM (nm:=ft.isNm) (RepB.one hsh.2 k6) (fun hn=>by rw[hsz];cases ft <;> first | rfl | cases hn)
   have hshp:=ur hsh.1 hsh.2 v2 v3
   refine⟨eL ft.isNm cs',w,by simp[Instr.loadAt,Instr.sureAddr,hrun],S,F,V,?_⟩
   cases hcp:c.b.cp E.G with
   | true =>
    rw[hcp]at hm
    obtain⟨rfl,rfl⟩:=aB (F:=Fa) hm
    obtain⟨g1,g2,g3⟩:=rv hcp k6
    exact⟨h,by rw[v1];exact g1,rx hshp,g2⟩
   | false =>
    rw[hcp]at hm
    obtain⟨rfl,rfl⟩:=aB (F:=Fa) hm
    refine⟨h,aK _,fun hp0 hb0 hbn=>?_,fun _=>⟨d,cs,ad,c,cs',some (b,o),hc,k4,k5,v1,hshp⟩⟩
    subst hp0
    unfold Root at k4
    rw[bz (by rw[hb0];decide)]at k4
    obtain⟨rfl,rfl⟩:=k4
    simp[loc]at k5
 | adr t' y =>
  cases ht:E.ty t with
  | none=>rw[ht]at hm;exact aA (F:=Fa) hm
  | some ft =>
   rw[ht]at hm
   obtain⟨h1,hm⟩:=aC hm
   obtain⟨rfl,rfl⟩:=aB (F:=Fa) hm
   have e:=FT.eq?_some h1
   subst e
   obtain⟨i,z,hty⟩:=TyOK.of (hT t t' ht)
   obtain⟨b,off,c,E0,fz,rfl,e2,e3,e4,e5⟩:=hp
   have hrun:=sR hty w (off:=off) e3 rfl e4.len
   obtain⟨d0,e4'⟩:=e4
   obtain⟨v1,v2,v3⟩:=qM (nm:=t'.isNm) (Rep.one d0 _ _ _ _ _ e4') (fun hn=>by rw[Rep.len _ _ _ _ _ _ e4'];cases t' <;> first | rfl | cases hn)
   refine⟨_,w,by simp[Instr.loadAt,Instr.sureAddr,hrun];rfl,S,F,V,h,by rw[v1];exact⟨d0,e4'⟩,?_,rfl⟩
   cases t' with
   | nm n=>exact v2 rfl
   | int k=>exact v3 rfl
   | bool=>exact v3 rfl
   | str=>exact v3 rfl
   | ptr=>exact v3 rfl
   | sl e=>exact v3 rfl
 | _=>exact aA (F:=Fa) hm
theorem TK(hT:∀ t ft,E.ty t=some ft→dh E.G C.P E.ty t ft=true)(h:Ok C σ a w S F V){t:TypeId}{p q:bX E}{va:Value}(hp:b9 S w σ.slot V p va)(hm:(sy (E:=E) (E.ty t) p).run Fa σ=some (q,σ1)):Res C a σ1 q (Instr.loadAt t va) w:=by
 generalize ht:E.ty t=ft at hm
 unfold sy at hm
 split at hm
 ·rename_i s g
  rw[M.run_getP]at hm
  split at hm
  ·rename_i s0 gs s' g' hq
   rw[M.run_getS,M.run_getS]at hm
   obtain⟨hc,hm2⟩:=aC hm
   obtain⟨rfl,rfl⟩:=aB (F:=Fa) hm2
   simp only[aD]at hc
   obtain⟨c1,c2,c3,c4,c5⟩:=hc
   have c1':=cn c1
   subst c1'
   have hw:=h.pins (wT s0)
   rw[hq]at hw
   obtain⟨w1,⟨w2,w3⟩,w4⟩:=hw
   have hb:=aG c5
   obtain⟨k1,bu,k2⟩:=w3 hb
   have hcell:=(w4 (cn c2) hb).2
   obtain⟨_,bb,hVb,hvb⟩:=hp.2.1 rfl (aG c4)
   unfold fd at hcell
   rw[bw c3]at hcell
   obtain⟨b,c,E0,fz,e1,e2,e3⟩:=hcell
   rw[hVb]at e1
   cases e1
   obtain⟨i,z,hty⟩:=TyOK.of (hT t .ptr ht)
   have hcs:(c.toList.drop 0).take (FT.sz E.G.sz .ptr)=[V s']:=by
    rw[aQ]
    show List.take 1 c.toList=_
    rw[← Array.getElem?_toList]at e3
    cases hl:c.toList with
    | nil=>rw[hl]at e3;cases e3
    | cons x xs=>rw[hl]at e3;cases e3;rfl
   have hrun:=sR hty w (off:=0) e2 hcs rfl
   refine⟨V s',w,?_,S,F,V,h,⟨⟨w2,bu,0,k2⟩,fun _ _=>⟨k1,bu,k2,k2⟩,fun h=>by cases h⟩⟩
   rw[hvb]
   simp[Instr.loadAt,Instr.sureAddr,hrun]
   rfl
  ·exact aA (F:=Fa) hm
 ·rename_i ft0 p0 hno
  subst ht
  exact TL hT h hp hm
end
end
section
section
variable {G:Gam} {P:Program} {ty:Nat→Option FT}
theorem vZ:∀ (fs:List Field) (ts:List FT) (off i:Nat),fg G P ty off fs ts=true→(hi:i<ts.length)→∃ f,fs[i]? = some f∧f.offset=off+FT.szs G.sz (ts.take i)∧ty f.type=some ts[i]∧∃ inf,P.info? f.type=some inf∧inf.size=ts[i].sz G.sz∧inf.size≠0
 | f::fs,t::ts,off,i,h,hi=>by
  simp only[fg,aD]at h
  obtain⟨⟨⟨h1,h2⟩,h3⟩,h4⟩:=h
  cases i with
  | zero =>
   cases ht:ty f.type with
   | none=>rw[ht]at h2;cases h2
   | some t' =>
    rw[ht]at h2
    cases hin:P.info? f.type with
    | none=>rw[hin]at h3;cases h3
    | some inf =>
     rw[hin]at h3
     simp only[aD,Bool.not_eq_true']at h3
     refine⟨f,rfl,by rw[cn h1];rfl,by rw[ht,FT.eq?_some h2];rfl,inf,hin,cn h3.1,fun e=>?_⟩
     rw[e]at h3;simp at h3
  | succ i =>
   obtain⟨f',e1,e2,e3,e4⟩:=vZ fs ts _ i h4 (by simpa using hi)
   exact⟨f',by simpa using e1,by rw[e2,List.take_succ_cons];simp only[FT.szs];omega,by simpa using e3,by simpa using e4⟩
 | [],t::ts,off,i,h,hi=>by simp[fg]at h
 | _,[],off,i,h,hi=>by simp at hi
theorem Jz{t:TypeId}{n:Nat}{inf:TypeInfo}{z:Value}(hty:TyOK G P ty t (.nm n) inf z)(w:World){i:Nat}(hi:i<(G.fs n).length){b o:Nat} :
  (Instr.fieldAt t (.pointer (some ⟨b,o,none⟩)) i).run P w = .ok (.pointer (some ⟨b,o+FT.szs G.sz ((G.fs n).take i),none⟩)) w:=by
 obtain⟨fs,h1,h2⟩:=hty.desc
 obtain⟨f,e1,e2,e3,inf',e4,e5,e6⟩:=vZ _ _ _ i h2 hi
 have e1':fs[i]? = some f:=by rw[← Array.getElem?_toList];exact e1
 simp only[Instr.fieldAt,Sem.run_bind,run_underlying h1,aS,e1',Instr.sureAddr,Sem.run_pure,fieldPlace,sizeOf,typeInfo,run_program,e4]
 simp[e6,gH,e2]
end
section
variable {E:Env} {Fa:cr E.Z} {C:Ctx} {σ σ1:St E.G} {a:Act} {w:World} {S:Nat→Prop} {F:Nat→List Nat} {V:Nat→Value} {fn:Fn}
theorem Oh(hT:∀ t ft,E.ty t=some ft→dh E.G C.P E.ty t ft=true)(h:Ok C σ a w S F V){t:TypeId}{i:Nat}{p q:bX E}{va:Value}(hp:b9 S w σ.slot V p va)(hm:(GW (E:=E) (E.ty t) p i).run Fa σ=some (q,σ1)):Res C a σ1 q (Instr.fieldAt t va i) w:=by
 cases p with
 | ptr s pth off g =>
  change M.run Fa (match (σ.slot s).cont with
   | .data d=>need (gS (σ.slot s) pth off g d) (match get E.G pth d,E.ty t with
    | some c,some (.nm n)=>need (shp E.G deep (.nm n) c.b&&Nat.blt i (E.G.fs n).length&&Lh c.b) (.ret (.ptr s (pth++[.fld i]) (off+FT.szs E.G.sz ((E.G.fs n).take i)) g))
    | _,_=>.fail)
   | _=>.fail) σ=some (q,σ1)at hm
  cases hc:(σ.slot s).cont with
  | dead=>rw[hc]at hm;exact aA (F:=Fa) hm
  | word q0=>rw[hc]at hm;exact aA (F:=Fa) hm
  | frz q0=>rw[hc]at hm;exact aA (F:=Fa) hm
  | data d =>
   rw[hc]at hm
   obtain⟨hok,hm⟩:=aC hm
   cases hg:get E.G pth d with
   | none=>rw[hg]at hm;cases E.ty t <;> exact aA (F:=Fa) hm
   | some c =>
   cases ht:E.ty t with
   | none=>rw[hg,ht]at hm;exact aA (F:=Fa) hm
   | some ft =>
   rw[hg,ht]at hm
   cases ft with
   | nm n =>
    obtain⟨hsh,hm⟩:=aC hm
    obtain⟨rfl,rfl⟩:=aB (F:=Fa) hm
    simp only[aD]at hsh
    have hi:i<(E.G.fs n).length:=aG hsh.1.2
    have hbh:∀ m,c.b ≠ .hole m:=fun m e=>by rw[e]at hsh;cases hsh.2
    obtain⟨inf,z,hty⟩:=TyOK.of (hT t _ ht)
    obtain⟨b,o,cc,E0,fz,cs,ad,cs',Fc,rfl,k1,k2,k3,k4,k5,k6,k7,k8⟩:=Ji h hp hc hok hg
    refine⟨_,w,Jz hty w hi,S,F,V,h,?_⟩
    refine⟨⟨hp.1.1,_,_,rfl⟩,fun hne hb=>?_,fun hne hg'=>?_⟩
    ·rw[xv]at hne
     have hne':cZ pth=true:=by simpa [cZ]using hne
     obtain⟨g1,b',g2,g3⟩:=hp.2.1 hne' hb
     cases g3
     exact⟨g1,b,g2,rfl⟩
    ·obtain⟨bi,d',n1,n2⟩:=Lb hsh.1.1 hi hbh
     obtain⟨y,hy⟩:=IX i (dp E.G c).b (dp E.G c).x _ _ (by rw[← nk];exact n1)
     refine⟨d,cs,ad,⟨bi,y⟩,(cs'.drop (FT.szs E.G.sz ((E.G.fs n).take i))).take (bi.sz E.G),b,o+FT.szs E.G.sz ((E.G.fs n).take i),hc,k4,?_,rfl⟩
     rw[nK pth [.fld i] d cs ad k5]
     simp only[loc,hy]
     rw[← nk,n1]
     rfl
   | _=>exact aA (F:=Fa) hm
 | adr t' y =>
  cases t' with
  | nm n =>
   cases ht:E.ty t with
   | none=>rw[ht]at hm;exact aA (F:=Fa) hm
   | some ft =>
    rw[ht]at hm
    cases ft with
    | nm m =>
     obtain⟨h1,hm2⟩:=aC hm
     clear hm
     have e:=cn h1
     subst e
     obtain⟨inf,z,hty⟩:=TyOK.of (hT t _ ht)
     obtain⟨b,off,c,E0,fz,rfl,e2,e3,e4,e5⟩:=hp
     cases hn:nth i (prs false (E.G.fs n)) (toB false (E.G.fs n) (E.G.un n y)) with
     | none=>rw[hn]at hm2;exact aA (F:=Fa) hm2
     | some cd =>
      rw[hn]at hm2
      have e4':=(sO (o:=false) _ _ _ _).1 (repE_nm.1 e4)
      obtain⟨m,ca,cc,cb,Fa',Fc,Fb,k1,k2,k3,k4,k5,_⟩:=jP i _ _ cd _ _ hn e4'
      have hlt:i<(E.G.fs n).length:=by
       rcases Nat.lt_or_ge i (E.G.fs n).length with h | h
       ·exact h
       ·exfalso
        have key:∀ (ts:List FT) (i:Nat),ts.length≤i→fG E.G i (prs false ts)=none:=by
         intro ts
         induction ts with
         | nil=>intro i _;cases i <;> rfl
         | cons t ts ih =>
          intro i hi
          cases i with
          | zero=>simp at hi
          | succ i =>
           show(match fG E.G i (prs false ts)with | some (n,c)=>some (BT.sz E.G (.leaf false t)+n,c) | none=>none)=none
           rw[ih i (by simpa using hi)]
        rw[key _ i h]at k1;cases k1
      have k1':=xL (G:=E.G) false _ i hlt
      rw[k1]at k1'
      simp only[Option.some.injEq,Prod.mk.injEq]at k1'
      obtain⟨rfl,hcb⟩:=k1'
      obtain⟨cb',cx⟩:=cd
      simp only at hcb
      subst hcb
      obtain⟨rfl,rfl⟩:=aB (F:=Fa) hm2
      refine⟨_,w,Jz hty w hlt,S,F,V,h,b,off+FT.szs E.G.sz ((E.G.fs n).take i),c,E0,fz,rfl,e2,e3,?_,?_⟩
      ·have hF:Fc=[]:=by
        have:([]:List Nat)=Fa'++Fc++Fb:=k3
        simp at this;exact this.2.1
       subst hF
       have k5':RepE S w false (E.G.fs n)[i] cx cc []:=k5
       have hcl:=k5'.len
       have:(c.toList.drop (off+FT.szs E.G.sz ((E.G.fs n).take i))).take ((E.G.fs n)[i].sz E.G.sz)=cc:=by
        have h1:(List.take (FT.sz E.G.sz (.nm n)) (c.toList.drop off)).drop ca.length=cc++cb:=by rw[k2,List.append_assoc,List.drop_left]
        rw[List.drop_take]at h1
        have h2:=congrArg (List.take cc.length) h1
        rw[List.take_take,List.take_left]at h2
        have hle:cc.length≤FT.sz E.G.sz (.nm n)-ca.length:=by
         have:=congrArg List.length k2
         rw[e4.len]at this
         simp at this;omega
        rw[Nat.min_eq_left hle,List.drop_drop]at h2
        rw[← k4,← hcl]
        first | exact h2 | (rw[Nat.add_comm];exact h2)
       rw[this];exact k5'
      ·have h1:=congrArg List.length k2
       rw[e4.len]at h1
       simp only[List.length_append]at h1
       have h2:=k5.len
       have h3:cc.length=(E.G.fs n)[i].sz E.G.sz:=h2
       omega
    | _=>exact aA (F:=Fa) hm
  | _=>exact aA (F:=Fa) hm
 | _=>exact aA (F:=Fa) hm
end
end
section
section
variable {E:Env} {Fa:cr E.Z} {C:Ctx} {σ σ1:St E.G} {a:Act} {w:World} {S:Nat→Prop} {F:Nat→List Nat} {V:Nat→Value} {fn:Fn}
theorem jH{t:Option FT}{e:FT}(h:gx t e=true):t=some (.sl e):=by
 unfold gx at h
 split at h
 ·rw[FT.eq?_some h]
 ·cases h
theorem w7{t:Option FT}(h:iv t=true):t=some .str:=by
 unfold iv at h
 split at h
 ·rfl
 ·cases h
theorem iL{p:bX E}{sl:Nat→Slot E.G}{v:Value}(hp:b9 S w sl V p v){k:IntKind}{n:Int}(h:asI p=some (k,n)):v = .int k n∧k.wrap n=n:=by
 unfold asI at h
 split at h
 ·cases h;exact qc hp
 ·cases h
theorem FS{p:bX E}{sl:Nat→Slot E.G}{v:Value}(hp:b9 S w sl V p v){b:Bool}(h:asB p=some b):v = .bool b:=by
 unfold asB at h
 split at h
 ·cases h;exact qb hp
 ·cases h
theorem yc(hT:∀ t ft,E.ty t=some ft→dh E.G C.P E.ty t ft=true){t:TypeId}{e:FT}(ht:E.ty t=some (.sl e)){b off len cap:Nat}{k:IntKind}{n:Int}(h0:0≤n)(h1:n<(len:Int)) :
  (Instr.indexAt t (.slice (some ⟨b,off,none⟩) len cap) (.int k n)).run C.P w = .ok (.pointer (some ⟨b,off+n.toNat*e.sz E.G.sz,none⟩)) w:=by
 obtain⟨inf,z,hty⟩:=TyOK.of (hT t _ ht)
 obtain⟨et,h2,h3⟩:=hty.desc
 obtain⟨inf',z',hty'⟩:=TyOK.of (hT et _ h3)
 simp only[Instr.indexAt,asIntOf,Sem.run_bind,Sem.run_pure,aS,run_underlying h2]
 simp[h0,h1,hty'.run_sizeOf,gH]
theorem Qa(hT:∀ t ft,E.ty t=some ft→dh E.G C.P E.ty t ft=true)(h:Ok C σ a w S F V){t:TypeId}{p q r:bX E}{vp vq:Value}(hp:b9 S w σ.slot V p vp)(hq:b9 S w σ.slot V q vq)
  (hm:(wX (E:=E) (E.ty t) p q).run Fa σ=some (r,σ1)):Res C a σ1 r (Instr.indexAt t vp vq) w:=by
 unfold wX at hm
 cases hi:asI q with
 | none=>rw[hi]at hm;exact aA (F:=Fa) hm
 | some kn =>
 obtain⟨k,n⟩:=kn
 rw[hi]at hm
 obtain⟨rfl,_⟩:=iL hq hi
 simp only at hm
 split at hm
 ·rename_i e l
  obtain⟨hsl,hm⟩:=aC hm
  obtain⟨hn,hm⟩:=M.run_chk hm
  obtain⟨rfl,rfl⟩:=aB (F:=Fa) hm
  obtain⟨h1,h2,_⟩:=hp
  obtain⟨l',hl'⟩:∃ l':List (J E.G.T e),l'=l:=⟨l,rfl⟩
  subst hl'
  have h1':RepE S w false (.sl e) l' vp.cells.toList []:=h1
  rw[dP h2]at h1'
  have hn':0≤n∧n<(l'.length:Int):=hn
  have hlt:n.toNat<l'.length:=by omega
  rcases repE_sl.1 h1' with ⟨_,e0,_⟩ | ⟨b,off,cap,c,E0,fz,F',e1,e2,e3,e4,e5⟩
  ·rw[e0]at hlt;simp at hlt
  ·rw[bz (by decide)]at e5
   obtain⟨g1,g2,g3,g4⟩:=e5
   obtain rfl:vp=_:=by simpa using e1
   refine⟨_,w,yc hT (jH hsl) hn'.1 hn'.2,S,F,V,h,b,off+n.toNat*e.sz E.G.sz,c,E0,fz,rfl,g1,e3,?_,?_⟩
   ·obtain⟨ca,cb,cc,Fa',Fb,Fc,m1,m2,m3,m4,m5,m6,m7⟩:=RepL.at (n:=e.sz E.G.sz) _ n.toNat _ _ hlt (fun x _ c G h=>h.len) e4
    have hcb:(c.toList.drop (off+n.toNat*e.sz E.G.sz)).take (e.sz E.G.sz)=cb:=by
     have q1:(List.take (l'.length*e.sz E.G.sz) (c.toList.drop off)).drop (n.toNat*e.sz E.G.sz)=cb++cc:=by rw[m1,List.append_assoc,← m3,List.drop_left]
     rw[List.drop_take,List.drop_drop]at q1
     have q2:=congrArg (List.take (e.sz E.G.sz)) q1
     rw[List.take_take]at q2
     have q3:(n.toNat+1)*e.sz E.G.sz≤l'.length*e.sz E.G.sz:=aM _ hlt
     rw[Nat.add_mul]at q3
     rw[Nat.min_eq_left (by omega)]at q2
     rw[q2,← m4,List.take_left]
    rw[hcb]
    have hget:List.getD (α:=J E.G.T e) l' n.toNat (cP E.G.zero e)=l'[n.toNat]:=by simp[List.getD,hlt]
    rw[hget]
    have hFb:=m5.shared
    rw[hFb]at m5
    exact m5
   ·have q3:(n.toNat+1)*e.sz E.G.sz≤l'.length*e.sz E.G.sz:=aM _ hlt
    rw[Nat.add_mul]at q3
    omega
 ·rename_i s pth g
  change M.run Fa (match (σ.slot s).cont with
   | .data d=>need (dK (σ.slot s) pth g) (match get E.G pth d with
    | some ⟨.leaf true (.sl e),l⟩=>need (gx (E.ty t) e) <| .chk (0≤n∧n<(List.length (α:=J E.G.T e) l:Int)) inferInstance (.ret (.ptr s (pth++[.el n.toNat]) 0 (σ.slot s).gen))
    | _=>.fail)
   | _=>.fail) σ=some (r,σ1)at hm
  cases hc:(σ.slot s).cont with
  | dead=>rw[hc]at hm;exact aA (F:=Fa) hm
  | word q0=>rw[hc]at hm;exact aA (F:=Fa) hm
  | frz q0=>rw[hc]at hm;exact aA (F:=Fa) hm
  | data d =>
   rw[hc]at hm
   obtain⟨hcur,hm⟩:=aC hm
   split at hm
   ·rename_i e l hg
    obtain⟨hsl,hm⟩:=aC hm
    obtain⟨hn,hm⟩:=M.run_chk hm
    obtain⟨rfl,rfl⟩:=aB (F:=Fa) hm
    obtain⟨l',hl'⟩:∃ l':List (J E.G.T e),l'=l:=⟨l,rfl⟩
    subst hl'
    have hn':0≤n∧n<(l'.length:Int):=hn
    have hlt:n.toNat<l'.length:=by omega
    obtain⟨cs,ad,cs',ad',F',k1,k2,k3,k4,k5,k6,k7⟩:=nb h hp hcur hc hg
    obtain⟨Fa',Fc,Fb,r1,r2,r3,r4⟩:=gU _ _ _ _ _ _ _ _ k5 k2 k4
    rcases repE_slT.1 (show RepE S w true (.sl e) l' cs' Fc from r2)with ⟨_,e0,_⟩ | ⟨b,off,cap,c,E0,fz,F0,rfl,e2,e3,e4,e5⟩
    ·rw[e0]at hlt;simp at hlt
    ·rw[bw rfl]at e5
     obtain⟨rfl,hfz,g3,g4,g5⟩:=e5
     have hvp:vp = .slice (some ⟨b,0,none⟩) l'.length cap:=by
      have:=dP (v:=vp) k7
      rw[this]at k6;simpa using k6
     subst hvp
     refine⟨_,w,yc hT (jH hsl) hn'.1 hn'.2,S,F,V,h,⟨aK _,_,_,rfl⟩,fun hne=>?_,fun _ _=>?_⟩
     ·rw[xv]at hne;simp[cZ]at hne
     ·refine⟨d,cs,ad,⟨.leaf true e,l'.getD n.toNat (cP E.G.zero e)⟩,(c.toList.drop (n.toNat*e.sz E.G.sz)).take (e.sz E.G.sz),b,n.toNat*e.sz E.G.sz,hc,k1,?_,by simp⟩
      rw[nK pth [.el n.toNat] d cs ad k5]
      show(match w.heap[b]? with
       | some (.cells c _ _)=>if n.toNat<l'.length then some ((⟨.leaf true e,l'.getD n.toNat (cP E.G.zero e)⟩:DV E.G.T),(c.toList.drop (n.toNat*e.sz E.G.sz)).take (e.sz E.G.sz),some (b,n.toNat*e.sz E.G.sz))else none
       | _=>none)=_
      rw[e3]
      simp only
      rw[bw hlt]
   ·exact aA (F:=Fa) hm
 ·rename_i s pth g lo hi
  change M.run Fa (match (σ.slot s).cont with
   | .data d=>need (Nat.beq g (σ.slot s).gen) (match get E.G pth d with
    | some ⟨.leaf true (.sl e),l⟩=>need (gx (E.ty t) e) <| .chk (0≤n∧n<(hi-lo:Nat)) inferInstance (.ret (.ptr s (pth++[.el (lo+n.toNat)]) 0 (σ.slot s).gen))
    | _=>.fail)
   | _=>.fail) σ=some (r,σ1)at hm
  cases hc:(σ.slot s).cont with
  | dead=>rw[hc]at hm;exact aA (F:=Fa) hm
  | word q0=>rw[hc]at hm;exact aA (F:=Fa) hm
  | frz q0=>rw[hc]at hm;exact aA (F:=Fa) hm
  | data d =>
   rw[hc]at hm
   obtain⟨hcur,hm⟩:=aC hm
   obtain⟨d1,cs,ad,e,l,cs',ad',k1,k2,k3,k4,k5,k6⟩:=hp.2 (cn hcur)
   rw[hc]at k1
   cases k1
   obtain⟨cs0,ad0,F',q1,q2,q3⟩:=mv (h.slots s) hc
   obtain⟨rfl,rfl⟩:=q1.eq k2
   obtain⟨Fa',Fc,Fb,r1,r2,r3,r4⟩:=gU _ _ _ _ _ _ _ _ k3 q2 ((h.nd s).sublist q3)
   rw[r3]at hm
   obtain⟨hsl,hm⟩:=aC hm
   obtain⟨hn,hm⟩:=M.run_chk hm
   obtain⟨rfl,rfl⟩:=aB (F:=Fa) hm
   have hn':0≤n∧n<((hi-lo:Nat):Int):=hn
   obtain⟨l',hl'⟩:∃ l':List (J E.G.T e),l'=l:=⟨l,rfl⟩
   subst hl'
   have k5':hi≤l'.length:=k5
   have hlt:lo+n.toNat<l'.length:=by omega
   rcases repE_slT.1 (show RepE S w true (.sl e) l' cs' Fc from r2)with ⟨_,e0,_⟩ | ⟨b,off,cap,c,E0,fz,F0,rfl,e2,e3,e4,e5⟩
   ·rw[e0]at hlt;simp at hlt
   ·rw[bw rfl]at e5
    obtain⟨rfl,hfz,g3,g4,g5⟩:=e5
    rcases k6 with ⟨hcs,_⟩ | ⟨b',n',cap1,off,cap',hcs,rfl,hcap',hoff⟩
    ·cases hcs
    ·cases hcs
     have hoff':off=lo*e.sz E.G.sz:=hoff.resolve_right fun h=>by omega
     refine⟨_,w,yc hT (jH hsl) hn'.1 hn'.2,S,F,V,h,⟨aK _,_,_,rfl⟩,fun hne=>?_,fun _ _=>?_⟩
     ·rw[xv]at hne;simp[cZ]at hne
     ·refine⟨d,cs,ad,⟨.leaf true e,l'.getD (lo+n.toNat) (cP E.G.zero e)⟩,(c.toList.drop ((lo+n.toNat)*e.sz E.G.sz)).take (e.sz E.G.sz),b,(lo+n.toNat)*e.sz E.G.sz,hc,k2,?_,by rw[hoff',Nat.add_mul]⟩
      rw[nK pth [.el (lo+n.toNat)] d cs ad k3]
      show(match w.heap[b]? with
       | some (.cells c _ _)=>if lo+n.toNat<l'.length then some ((⟨.leaf true e,l'.getD (lo+n.toNat) (cP E.G.zero e)⟩:DV E.G.T),(c.toList.drop ((lo+n.toNat)*e.sz E.G.sz)).take (e.sz E.G.sz),some (b,(lo+n.toNat)*e.sz E.G.sz))else none
       | _=>none)=_
      rw[e3]
      simp only
      rw[bw hlt]
 ·exact aA (F:=Fa) hm
theorem Qc(hT:∀ t ft,E.ty t=some ft→dh E.G C.P E.ty t ft=true)(h:Ok C σ a w S F V){t:TypeId}{p q r:bX E}{vp vq:Value}(hp:b9 S w σ.slot V p vp)(hq:b9 S w σ.slot V q vq)
  (hm:(Ie (E:=E) (E.ty t) p q).run Fa σ=some (r,σ1)):Res C a σ1 r (Instr.index t vp vq) w:=by
 obtain⟨hs,hm⟩:=aC hm
 split at hm
 ·rename_i o l k n hi hm0
  obtain⟨hn,hm⟩:=M.run_chk hm
  obtain⟨rfl,rfl⟩:=aB (F:=Fa) hm
  obtain⟨rfl,_⟩:=iL hq hi
  obtain⟨s,rfl,hl,hsz⟩:=nO hp
  subst hl
  obtain⟨inf,z,hty⟩:=TyOK.of (hT t _ (w7 hs))
  have hn':0≤n∧n<((ct s).length:Int):=hn
  rw[fR]at hn'
  have hlt:n.toNat<s.size:=by omega
  have hu:C.P.underlying t=some .string:=hty.desc
  refine⟨.int .u8 (s[n.toNat]'hlt).toNat,w,?_,S,F,V,h,?_⟩
  ·simp only[Instr.index,asIntOf,Sem.run_bind,Sem.run_pure,aS,run_underlying hu]
   have:s[n.toNat]? = some (s[n.toNat]'hlt):=getElem?_pos s n.toNat hlt
   simp[hn'.1,this]
  ·have:List.getD (α:=Int) (ct s) n.toNat 0=((s[n.toNat]'hlt).toNat:Int):=by
    have hlt':n.toNat<s.data.toList.length:=by rw[aJ];exact hlt
    simp only[ct,List.getD,List.getElem?_map,List.getElem?_eq_getElem hlt']
    rfl
   rw[this]
   refine eb ?_
   rw[IntKind.wrap_u8]
   have:=(s[n.toNat]'hlt).toNat_lt
   omega
 ·exact aA (F:=Fa) hm
theorem Y4(h:Ok C σ a w S F V){op:UnOp}{p r:bX E}{vp:Value}(hp:b9 S w σ.slot V p vp)(hm:(unM (E:=E) op p).run Fa σ=some (r,σ1)):Res C a σ1 r (Op.unary op vp) w:=by
 unfold unM at hm
 split at hm
 ·obtain⟨rfl,rfl⟩:=aB (F:=Fa) hm
  have e:=qb hp
  subst e
  exact⟨_,w,rfl,S,F,V,h,ek⟩
 ·rename_i k n
  obtain⟨rfl,rfl⟩:=aB (F:=Fa) hm
  obtain⟨rfl,_⟩:=qc hp
  exact⟨.int k (k.wrap (0-asN n)),w,rfl,S,F,V,h,eb (iG _ _)⟩
 ·exact aA (F:=Fa) hm
theorem Jd{sl:Nat→Slot E.G}:∀ {ps:List (bX E)} {vs:List Value} {i:Nat} {p:bX E},PinsOK S w sl V ps vs→ps[i]? = some p→∃ v,vs[i]? = some v∧b9 S w sl V p v
 | p0::ps,vs,0,p,h0,h=>by
  obtain⟨v,vs',e,h1,h2⟩:=h0
  subst e
  obtain rfl:p0=p:=by simpa using h
  exact⟨v,rfl,h1⟩
 | p0::ps,vs,i+1,p,h0,h=>by
  obtain⟨v,vs',e,h1,h2⟩:=h0
  subst e
  obtain⟨u,h3,h4⟩:=Jd h2 (by simpa using h)
  exact⟨u,by simpa using h3,h4⟩
 | [],vs,i,p,_,h=>by simp at h
theorem Og(h:Ok C σ a w S F V){i:Nat}{p r:bX E}{vp:Value}(hp:b9 S w σ.slot V p vp)(hm:(vY (E:=E) i p).run Fa σ=some (r,σ1)):Res C a σ1 r (Instr.extract vp i) w:=by
 unfold vY at hm
 split at hm
 ·obtain⟨h1,rfl⟩:=M.run_lift hm
  obtain⟨vs,rfl,h2⟩:=hp
  obtain⟨v,h3,h4⟩:=Jd h2 h1
  refine⟨v,w,?_,S,F,V,h,h4⟩
  have:vs[i]? = some v:=by rw[← Array.getElem?_toList];exact h3
  simp[Instr.extract,this]
 ·exact aA (F:=Fa) hm
theorem Oi(hT:∀ t ft,E.ty t=some ft→dh E.G C.P E.ty t ft=true)(h:Ok C σ a w S F V){t:TypeId}{i:Nat}{p r:bX E}{vp:Value}(hp:b9 S w σ.slot V p vp)
  (hm:(GX (E:=E) (E.ty t) i p).run Fa σ=some (r,σ1)):Res C a σ1 r (Instr.field t vp i) w:=by
 have step:∀ (b:BT) (x:B E.G.T b) (c:DV E.G.T) (cs:List Value) (Fs:List Nat),pQ E.G (E.ty t) i b=true→RepB S w b x cs Fs→Shaped b vp→vp.cells.toList=cs→get E.G [.fld i] ⟨b,x⟩=some c→c.b.whole=true →
   ∃ cs' Fc,(Instr.field t vp i).run C.P w = .ok (eL ((match E.ty t with | some (.nm n)=>((E.G.fs n)[i]?.map FT.isNm).getD false | _=>false)) cs') w∧RepB S w c.b c.x cs' Fc∧(∀ ad,∃ ad',loc w [.fld i] ⟨b,x⟩ cs ad=some (c,cs',ad')) ∧
    (eL ((match E.ty t with | some (.nm n)=>((E.G.fs n)[i]?.map FT.isNm).getD false | _=>false)) cs').cells.toList=cs'∧Shaped c.b (eL ((match E.ty t with | some (.nm n)=>((E.G.fs n)[i]?.map FT.isNm).getD false | _=>false)) cs'):=by
  intro b x c cs Fs hnm hr hsh hcs hg hcw
  have hnh:∀ m,b ≠ .hole m:=by
   intro m e
   subst e
   exact b7 hg
  unfold pQ at hnm
  cases ht:E.ty t with
  | none=>rw[ht]at hnm;cases hnm
  | some ft =>
  rw[ht]at hnm
  cases ft with
  | nm n =>
   simp only[aD]at hnm
   have hi:i<(E.G.fs n).length:=aG hnm.2
   obtain⟨inf,z,hty⟩:=TyOK.of (hT t _ ht)
   obtain⟨fs,h1,h2⟩:=hty.desc
   obtain⟨f,e1,e2,e3,inf',e4,e5,e6⟩:=vZ _ _ _ i h2 hi
   obtain⟨inf2,z2,hty2⟩:=TyOK.of (hT f.type _ e3)
   obtain⟨bi,d',n1,n2⟩:=Lb hnm.1 hi hnh
   have hr':=(kV ⟨b,x⟩).1 hr
   rw[kA]at hg
   cases hc:nth i (dp E.G ⟨b,x⟩).b (dp E.G ⟨b,x⟩).x with
   | none=>rw[hc]at hg;exact b7 hg
   | some c0 =>
    rw[hc]at hg
    obtain rfl:=aR hg
    obtain⟨m,ca,cc,cb,Fa',Fc,Fb,k1,k2,k3,k4,k5,_⟩:=jP i _ _ c0 _ _ hc hr'
    have k1':=k1
    rw[← nk]at k1'
    rw[n1]at k1'
    simp only[Option.some.injEq,Prod.mk.injEq]at k1'
    obtain⟨rfl,rfl⟩:=k1'
    have hsz:c0.b.sz E.G=(E.G.fs n)[i].sz E.G.sz:=(ji d').1 _ _ n2
    have hmid:(cs.drop (FT.szs E.G.sz ((E.G.fs n).take i))).take (c0.b.sz E.G)=cc:=by rw[k2];exact fj k4 (RepB.len k5)
    have hagg:∃ cs0,vp = .agg cs0:=by
     cases b with
     | leaf o t' =>
      cases t' with
      | nm m=>exact hsh
      | _=>cases hd:deep with
       | zero=>rw[hd]at hnm;simp[shp]at hnm
       | succ d=>rw[hd]at hnm;have:=FT.eq?_some (show _=true by simpa only[shp]using hnm.1);cases this
     | pr _ _=>exact hsh
     | un=>exact hsh
     | hole m=>exact absurd rfl (hnh m)
     | sp _=>cases hd:deep with
      | zero=>rw[hd]at hnm;simp[shp]at hnm
      | succ d=>rw[hd]at hnm;exact BE (by simpa only[shp]using hnm.1)
     | fn _=>cases hd:deep with
      | zero=>rw[hd]at hnm;simp[shp]at hnm
      | succ d=>rw[hd]at hnm;exact BC (by simpa only[shp]using hnm.1)
    obtain⟨cs0,rfl⟩:=hagg
    have hcs':cs0.toList=cs:=hcs
    have hfit:f.offset+(E.G.fs n)[i].sz E.G.sz≤cs0.size:=by
     have h3:=congrArg List.length k2
     rw[← hcs',aJ]at h3
     simp only[List.length_append]at h3
     have h4:=RepB.len k5
     rw[e2];omega
    refine⟨cc,Fc,?_,k5,?_,?_⟩
    ·have e1':fs[i]? = some f:=by rw[← Array.getElem?_toList];exact e1
     simp only[Instr.field,Sem.run_bind,run_underlying h1,aS,e1',asAgg,Sem.run_pure,yd hty2 w hfit]
     have h5:(cs0.toList.drop f.offset).take ((E.G.fs n)[i].sz E.G.sz)=cc:=by rw[hcs',e2,Nat.zero_add,← hsz];exact hmid
     rw[h5]
     simp[hi]
    ·intro ad
     simp only[loc,hc,k1,hmid]
     exact⟨_,rfl⟩
    ·have hisnm:((E.G.fs n)[i]?.map FT.isNm).getD false=(E.G.fs n)[i].isNm:=by simp[hi]
     simp only[hisnm]
     obtain⟨v1,v2,v3⟩:=qM (nm:=(E.G.fs n)[i].isNm) (RepB.one hcw k5) (fun hn=>by rw[RepB.len k5,hsz];cases hft:(E.G.fs n)[i] <;> first | rfl | (rw[hft]at hn;cases hn))
     exact⟨v1,ur n2 hcw v2 v3⟩
  | _=>cases hnm
 cases p with
 | val d =>
  obtain⟨hnm,hm⟩:=aC hm
  cases hg:get E.G [.fld i] d with
  | none=>rw[hg]at hm;exact aA (F:=Fa) hm
  | some c =>
   rw[hg]at hm
   obtain⟨hcp,hm⟩:=aC hm
   obtain⟨rfl,rfl⟩:=aB (F:=Fa) hm
   obtain⟨cs',Fc,k1,k2,k3,k4,k5⟩:=step d.b d.x c _ _ hnm hp.1 hp.2.1 rfl hg (lJ hcp)
   have hF:=RepB.cp hcp k2
   subst hF
   exact⟨_,w,k1,S,F,V,h,by rw[k4];exact k2,k5,hcp⟩
 | ali s pth g =>
  change M.run Fa (match (σ.slot s).cont with
   | .data d=>need (dK (σ.slot s) pth g&&(match get E.G pth d with | some c=>pQ E.G (E.ty t) i c.b | none=>false)) (match get E.G (pth++[.fld i]) d with
    | some c=>need c.b.whole <| bif c.b.cp E.G then .ret (.val (cpn c))else .ret (.ali s (pth++[.fld i]) (σ.slot s).gen)
    | none=>.fail)
   | _=>.fail) σ=some (r,σ1)at hm
  cases hc:(σ.slot s).cont with
  | dead=>rw[hc]at hm;exact aA (F:=Fa) hm
  | word q0=>rw[hc]at hm;exact aA (F:=Fa) hm
  | frz q0=>rw[hc]at hm;exact aA (F:=Fa) hm
  | data d =>
   rw[hc]at hm
   obtain⟨hcur,hm⟩:=aC hm
   simp only[aD]at hcur
   cases hg0:get E.G pth d with
   | none=>rw[hg0]at hcur;cases hcur.2
   | some c0 =>
   rw[hg0]at hcur
   cases hg:get E.G (pth++[.fld i]) d with
   | none=>rw[hg]at hm;exact aA (F:=Fa) hm
   | some c =>
    rw[hg]at hm
    obtain⟨hcw,hm⟩:=aC hm
    obtain⟨cs,ad,cs',ad',F',k1,k2,k3,k4,k5,k6,k7⟩:=nb h hp hcur.1 hc hg0
    obtain⟨Fa',Fc,Fb,r1,r2,r3,r4⟩:=gU _ _ _ _ _ _ _ _ k5 k2 k4
    have hg':=hg
    rw[we pth [.fld i] d hg0]at hg'
    obtain⟨cs2,Fc2,m1,m2,m3,m4,m5⟩:=step c0.b c0.x c cs' Fc hcur.2 r2 k7 k6 hg' hcw
    obtain⟨ad2,m3⟩:=m3 ad'
    cases hcp:c.b.cp E.G with
    | true =>
     rw[hcp]at hm
     obtain⟨rfl,rfl⟩:=aB (F:=Fa) hm
     obtain⟨g1,g2,g3⟩:=rv hcp m2
     exact⟨_,w,m1,S,F,V,h,by rw[m4];exact g1,rx m5,g2⟩
    | false =>
     rw[hcp]at hm
     obtain⟨rfl,rfl⟩:=aB (F:=Fa) hm
     refine⟨_,w,m1,S,F,V,h,aK _,fun hp0=>?_,fun _=>⟨d,cs,ad,c,cs2,ad2,hc,k1,?_,m4,m5⟩⟩
     ·simp at hp0
     ·rw[nK pth [.fld i] d cs ad k5];exact m3
 | _=>exact aA (F:=Fa) hm
end
end
section
section
variable {E:Env} {Fa:cr E.Z} {C:Ctx} {σ σ1:St E.G} {a:Act} {w:World} {S:Nat→Prop} {F:Nat→List Nat} {V:Nat→Value} {L:List Nat} {fn:Fn}
theorem Res.pure(h:Ok C σ a w S F V){p:bX E}{v:Value}{s:Sem Value}(hp:b9 S w σ.slot V p v)(hs:s.run C.P w = .ok v w):Res C a σ p s w:=⟨v,w,hs,S,F,V,h,hp⟩
theorem YC{p q:bX E}(hm:(Li (E:=E) p).run Fa σ=some (q,σ1)):q=p∧σ1=σ:=by
 cases p with
 | no=>exact aA (F:=Fa) hm
 | und=>exact aA (F:=Fa) hm
 | _=>exact aB (F:=Fa) hm
theorem T8{p q:bX E}{v:Value}(hp:b9 S w σ.slot V p v)(hm:(IK (E:=E) p).run Fa σ=some (q,σ1)):q=p∧σ1=σ∧((∃ b o,v = .pointer (some ⟨b,o,none⟩))∨∃ f vs,v = .func (.func f) #[] vs):=by
 cases p with
 | ptr s pth off g=>obtain⟨rfl,rfl⟩:=aB (F:=Fa) hm;exact⟨rfl,rfl,.inl hp.1.2⟩
 | adr t x=>obtain⟨rfl,rfl⟩:=aB (F:=Fa) hm;obtain⟨b,off,c,E0,fz,h,_⟩:=hp;exact⟨rfl,rfl,.inl ⟨b,off,h⟩⟩
 | clo f cs=>obtain⟨rfl,rfl⟩:=aB (F:=Fa) hm;obtain⟨vs,h,_⟩:=hp;exact⟨rfl,rfl,.inr ⟨f,vs,h⟩⟩
 | _=>exact aA (F:=Fa) hm
def oS(S:Nat→Prop)(w:World)(sl:Nat→Slot E.G)(V:Nat→Value)(p:Option (bX E))(v:Option Value):Prop :=
 (p=none∧v=none)∨∃ q u,p=some q∧v=some u∧b9 S w sl V q u
theorem I1(h:Ok C σ a w S F V){x:Option Operand}{p:Option (bX E)}(hr:(sD x).run Fa σ=some (p,σ1)):σ1=σ∧oS S w σ.slot V p (x.map a.eval):=by
 obtain⟨h1,h2⟩:=Ul h hr
 refine⟨h1,?_⟩
 rcases h2 with ⟨rfl,rfl⟩ | ⟨y,q,rfl,rfl,h3⟩
 ·exact .inl ⟨rfl,rfl⟩
 ·exact .inr ⟨q,_,rfl,rfl,h3⟩
theorem rz{α:Type}{P:Program}{n:Nat}{lo hi:Option (bX E)}{lov hiv:Option Value}{sl:Nat→Slot E.G}{k:Nat→Nat→ME E α}{r:α}(hlo:oS S w sl V lo lov)(hhi:oS S w sl V hi hiv)(hm:(kt (E:=E) n lo hi k).run Fa σ=some (r,σ1)) :
  ∃ x y,x≤y∧y≤n∧(lo=none→x=0)∧(k x y).run Fa σ=some (r,σ1)∧∀ (isS:Bool) (cap:Nat),n≤cap→(isS=false→cap=n)→(Instr.sliceBounds isS n cap lov hiv none).run P w = .ok (x,y,cap) w:=by
 unfold kt at hm
 rcases hhi with ⟨rfl,rfl⟩ | ⟨q,u,rfl,rfl,hq⟩
 ·rcases hlo with ⟨rfl,rfl⟩ | ⟨p,v,rfl,rfl,hp⟩
  ·exact⟨0,n,Nat.zero_le _,aK _,fun _=>rfl,hm,fun isS cap hc _=>by simp[Instr.sliceBounds]⟩
  ·simp only at hm
   cases hi:asI p with
   | none=>rw[hi]at hm;exact aA (F:=Fa) hm
   | some kl =>
    rw[hi]at hm
    obtain⟨h1,hm⟩:=M.run_chk hm
    obtain⟨rfl,_⟩:=iL hp (show asI p=some (kl.1,kl.2)from hi)
    refine⟨kl.2.toNat,n,by omega,aK _,fun h=>by simp at h,hm,fun isS cap hc _=>?_⟩
    simp[Instr.sliceBounds,run_sliceBound,h1.1,h1.2]
 ·simp only at hm
  cases hi:asI q with
  | none=>rw[hi]at hm;exact aA (F:=Fa) hm
  | some kh =>
   rw[hi]at hm
   obtain⟨rfl,_⟩:=iL hq (show asI q=some (kh.1,kh.2)from hi)
   rcases hlo with ⟨rfl,rfl⟩ | ⟨p,v,rfl,rfl,hp⟩
   ·obtain⟨h1,hm⟩:=M.run_chk hm
    refine⟨0,kh.2.toNat,Nat.zero_le _,by omega,fun _=>rfl,hm,fun isS cap hc _=>?_⟩
    have:kh.2≤(cap:Int):=by omega
    simp[Instr.sliceBounds,run_sliceBound,h1.1,this]
   ·simp only at hm
    cases hi2:asI p with
    | none=>rw[hi2]at hm;exact aA (F:=Fa) hm
    | some kl =>
     rw[hi2]at hm
     obtain⟨h1,hm⟩:=M.run_chk hm
     obtain⟨rfl,_⟩:=iL hp (show asI p=some (kl.1,kl.2)from hi2)
     have h2:0≤kh.2:=by omega
     have e:(kh.2.toNat:Int)=kh.2:=Int.toNat_of_nonneg h2
     refine⟨kl.2.toNat,kh.2.toNat,by omega,by omega,fun h=>by simp at h,hm,fun isS cap hc _=>?_⟩
     have h4:kh.2≤(cap:Int):=by omega
     simp[Instr.sliceBounds,run_sliceBound,h2,h4,h1.1,e,h1.2.1]
theorem M7(s:ByteArray)(x y:Nat):ct (s.extract x y)=List.take (y-x) (List.drop x (ct s)):=by
 unfold ct
 rw[← List.map_drop,← List.map_take]
 congr 1
 simp[ByteArray.data_extract,List.extract]
theorem Vc{G:Gam}{e:FT}{l:List (J G.T e)}{v:Value}(h:RepE S w false (.sl e) l [v] []){lo hi:Nat}(h1:lo≤hi)(h2:hi≤l.length) :
  ∃ base len cap,v = .slice base len cap∧len=l.length∧len≤cap∧(base=none→cap=0)∧RepE S w false (.sl e) ((l.drop lo).take (hi-lo)) [.slice (if cap=lo then base else base.map (·.add (lo*e.sz G.sz))) (hi-lo) (cap-lo)] []:=by
 rcases repE_sl.1 h with ⟨hv,e0,_⟩ | ⟨b,off,cap,c,E0,fz,F',hv,e2,e3,e4,e5⟩
 ·obtain⟨base,cap,hv,hb,_⟩:=hv
  obtain rfl:v = .slice base 0 cap:=by simpa using hv
  subst e0
  have:hi=0:=by simpa using h2
  have:lo=0:=by omega
  subst hi;subst lo
  refine⟨base,0,cap,rfl,rfl,Nat.zero_le _,hb,repE_sl.2 (.inl ⟨⟨_,_,rfl,fun h=>?_,fun h=>by cases h⟩,by simp,rfl⟩)⟩
  show cap-0=0
  split at h
  ·rename_i hc;rw[hc]
  ·cases base with
   | none=>rw[hb rfl]
   | some a=>simp at h
 ·obtain rfl:v=_:=by simpa using hv
  rw[bz (by decide)]at e5
  obtain⟨g1,_,g3,g4⟩:=e5
  refine⟨_,_,_,rfl,rfl,e2,fun h=>(by cases h),?_⟩
  have hl:((l.drop lo).take (hi-lo)).length=hi-lo:=by rw[aU,aV];omega
  obtain⟨off',ho1,ho2⟩:∃ off',(if cap=lo then some (⟨b,off,none⟩:Addr)else Option.map (fun x:Addr=>x.add (lo*e.sz G.sz)) (some (⟨b,off,none⟩:Addr)))=some (⟨b,off',none⟩:Addr)∧(off'=off+lo*e.sz G.sz∨(off'=off∧lo=hi)):=by
   split
   ·exact⟨off,rfl,.inr ⟨rfl,by omega⟩⟩
   ·exact⟨off+lo*e.sz G.sz,by simp[gH],.inl rfl⟩
  rw[ho1]
  have hle:(lo+(hi-lo))*e.sz G.sz≤l.length*e.sz G.sz:=aM _ (by omega)
  rw[Nat.add_mul]at hle
  have F0:∀ (xs:List (J G.T e)) (cs:List Value) (Fx:List Nat),RepL (RepE S w false e) xs cs Fx→RepL (RepE S w false e) xs cs []:=by
   intro xs
   induction xs with
   | nil=>intro cs Fx h;exact⟨h.1,rfl⟩
   | cons x xs ih =>
    rintro cs Fx ⟨c1,c2,F1,F2,k1,k2,k3,k4⟩
    have:=k3.shared
    rw[this]at k3
    exact⟨c1,c2,[],[],k1,rfl,k3,ih _ _ k4⟩
  refine repE_sl.2 (.inr ⟨b,off',cap-lo,c,E0,fz,[],by rw[hl],by rw[hl];omega,e3,?_,?_⟩)
  ·rw[hl]
   rcases Nat.lt_or_ge lo hi with hlt | hge
   ·have ho:off'=off+lo*e.sz G.sz:=ho2.resolve_right fun h=>by omega
    obtain⟨F1,F2,k1,k2,k3⟩:=RepL.split (n:=e.sz G.sz) (fun x c G h=>RepE.len h) lo _ _ _ e4
    obtain⟨F3,F4,k4,k5,k6⟩:=RepL.split (n:=e.sz G.sz) (fun x c G h=>RepE.len h) (hi-lo) _ _ _ k3
    have e7:List.take ((hi-lo)*e.sz G.sz) (List.drop (lo*e.sz G.sz) (List.take (l.length*e.sz G.sz) (c.toList.drop off)))=(c.toList.drop off').take ((hi-lo)*e.sz G.sz):=by
     rw[ho,List.drop_take,List.take_take,List.drop_drop]
     congr 1
     have:(hi-lo)*e.sz G.sz≤(l.length-lo)*e.sz G.sz:=aM _ (by omega)
     rw[← Nat.sub_mul,Nat.min_eq_left this]
    rw[e7]at k5
    exact F0 _ _ _ k5
   ·have:hi-lo=0:=by omega
    rw[this];simp[RepL]
  ·rw[bz (by decide),hl]
   refine⟨g1,rfl,?_,by omega⟩
   rcases ho2 with rfl | ⟨rfl,rfl⟩
   ·omega
   ·simp;omega
theorem qj(hT:∀ t ft,E.ty t=some ft→dh E.G C.P E.ty t ft=true){t:TypeId}{e:FT}(ht:E.ty t=some (.sl e)){base:Option Addr}{len cap x y:Nat}{lov hiv:Option Value}(hb:(Instr.sliceBounds true len cap lov hiv none).run C.P w = .ok (x,y,cap) w) :
  (Instr.sliceAt t (.slice base len cap) lov hiv none).run C.P w = .ok (.slice (if cap=x then base else base.map (·.add (x*e.sz E.G.sz))) (y-x) (cap-x)) w:=by
 obtain⟨inf,z,hty⟩:=TyOK.of (hT t _ ht)
 obtain⟨et,h2,h3⟩:=hty.desc
 obtain⟨inf',z',hty'⟩:=TyOK.of (hT et _ h3)
 simp only[Instr.sliceAt,Instr.slice,Sem.run_bind,run_underlying h2,aS,hb,hty'.run_sizeOf,Sem.run_pure]
theorem Lw{s:Nat}{p:cT}{g:Nat}{d d0 c:DV E.G.T}(hm:(iE (E:=E) (.ali s p g)).run Fa σ=some (d,σ1))(hc:(σ.slot s).cont = .data d0)(hg:get E.G p d0=some c):d=c:=by
 obtain⟨σ2,hm,_⟩:=qG hm
 change M.run Fa (match (σ.slot s).cont with
   | .data d=>need (dK (σ.slot s) p g) (match get E.G p d with
    | some c=>bif c.b.cp E.G then .ret c else need c.b.whole <|
     bif (σ.slot s).box then need (cZ p) (match put E.G ⟨.hole (c.b.sz E.G),()⟩ p d with
      | some d'=>.setS s { σ.slot s with gen:=(σ.slot s).gen+1,orig:=none,cont:=.data d' } (.ret c)
      | none=>.fail)
     else .setS s { σ.slot s with gen:=(σ.slot s).gen+1,born:=(σ.slot s).gen+1,cont:=.dead } (.ret c)
    | none=>.fail)
   | .frz d=>fS (σ.slot s) p g d
   | _=>.fail) σ=some (d,σ2)at hm
 rw[hc]at hm
 obtain⟨_,hm2⟩:=aC hm
 rw[hg]at hm2
 simp only at hm2
 cases hcp:c.b.cp E.G with
 | true=>rw[hcp]at hm2;exact(aB (F:=Fa) hm2).1
 | false =>
  rw[hcp]at hm2
  obtain⟨_,hm3⟩:=aC hm2
  cases hbx:(σ.slot s).box with
  | true =>
   rw[hbx]at hm3
   obtain⟨_,hm4⟩:=aC hm3
   split at hm4
   ·cases hm4;rfl
   ·exact aA (F:=Fa) hm4
  | false=>rw[hbx]at hm3;cases hm3;rfl
theorem Yz(hnp:fn.np=C.np)(hT:∀ t ft,E.ty t=some ft→dh E.G C.P E.ty t ft=true)(h:Ok C σ a w S F V){t:TypeId}{dst:Option Tmp}{p r:bX E}{lo hi:Option (bX E)}{vp:Value}{lov hiv:Option Value}
  (hp:b9 S w σ.slot V p vp) (hlo:oS S w σ.slot V lo lov) (hhi:oS S w σ.slot V hi hiv) (hm:(BF (E:=E) fn (E.ty t) dst p lo hi).run Fa σ=some (r,σ1)):Res C a σ1 r (Instr.sliceAt t vp lov hiv none) w:=by
 unfold BF at hm
 split at hm
 ·rename_i o l
  obtain⟨hs,hm⟩:=aC hm
  obtain⟨inf,z,hty⟩:=TyOK.of (hT t _ (w7 hs))
  have hu:C.P.underlying t=some .string:=hty.desc
  obtain⟨x,y,h1,h2,h3,h4,h5⟩:=rz (P:=C.P) hlo hhi hm
  obtain⟨rfl,rfl⟩:=aB (F:=Fa) h4
  obtain⟨s,rfl,hl,hsz⟩:=nO hp
  subst hl
  have h2':y≤(ct s).length:=h2
  rw[fR]at h2'
  have hb:(Instr.sliceBounds false s.size s.size lov hiv none).run C.P w = .ok (x,y,s.size) w:=by
   have:=h5 false s.size (by show(ct s).length≤_;rw[fR];exact aK _) (fun _=>(fR s).symm)
   have e:List.length (α:=Int) (ct s)=s.size:=fR s
   rw[e]at this;exact this
  refine Res.pure h (v:=.string (s.extract x y)) ?_ ?_
  ·have:=M7 s x y
   rw[← this]
   exact qd (by rw[ByteArray.size_extract];omega)
  ·simp only[Instr.sliceAt,Instr.slice,Sem.run_bind,run_underlying hu,aS]
   simp[hb]
 ·rename_i e l
  obtain⟨hs,hm⟩:=aC hm
  obtain⟨x,y,h1,h2,h3,h4,h5⟩:=rz (P:=C.P) hlo hhi hm
  obtain⟨rfl,rfl⟩:=aB (F:=Fa) h4
  obtain⟨p1,p2,_⟩:=hp
  have p1':RepE S w false (.sl e) l vp.cells.toList []:=p1
  rw[dP p2]at p1'
  obtain⟨base,len,cap,rfl,rfl,k3,k4,k5⟩:=Vc p1' h1 h2
  refine Res.pure h (v:=_) ⟨?_,fun cs hcs=>(by cases hcs),rfl⟩ (qj hT (jH hs) (h5 true cap k3 (fun h=>by cases h)))
  exact k5
 ·rename_i s pth g
  cases dst with
  | none=>exact aA (F:=Fa) hm
  | some d =>
  change M.run Fa (match (σ.slot s).cont with
   | .data c=>need (dK (σ.slot s) pth g) (match get E.G pth c with
    | some ⟨.leaf true (.sl e),l⟩=>need (gx (E.ty t) e) <| bif Nat.beq (fn.ann d) 2 then kt (List.length (α:=J E.G.T e) l) lo hi fun a b=>.ret (.view s pth (σ.slot s).gen a b)
      else match lo with
       | some _=>.fail
       | none=>kt (List.length (α:=J E.G.T e) l) none hi fun _ b=>(iE (.ali s pth g)).bind fun _ =>
         lu fn (16*d) false ⟨.leaf true (.sl e),List.take (α:=J E.G.T e) b l⟩
    | _=>.fail)
   | _=>.fail) σ=some (r,σ1)at hm
  cases hc:(σ.slot s).cont with
  | dead=>rw[hc]at hm;exact aA (F:=Fa) hm
  | word q0=>rw[hc]at hm;exact aA (F:=Fa) hm
  | frz q0=>rw[hc]at hm;exact aA (F:=Fa) hm
  | data d0 =>
   rw[hc]at hm
   obtain⟨hcur,hm⟩:=aC hm
   split at hm
   ·rename_i e l hg
    obtain⟨hsl,hm⟩:=aC hm
    obtain⟨cs,ad,cs',ad',F',k1,k2,k3,k4,k5,k6,k7⟩:=nb h hp hcur hc hg
    obtain⟨Fa',Fc,Fb,r1,r2,r3,r4⟩:=gU _ _ _ _ _ _ _ _ k5 k2 k4
    obtain⟨l',hl'⟩:∃ l':List (J E.G.T e),l'=l:=⟨l,rfl⟩
    subst hl'
    have r2':RepE S w true (.sl e) l' cs' Fc:=r2
    have hvp:∀ cs,vp ≠ .agg cs:=k7
    rw[dP hvp]at k6
    subst k6
    cases hann:Nat.beq (fn.ann d) 2 with
    | true =>
     rw[hann]at hm
     simp only[cond_true]at hm
     obtain⟨x,y,h1,h2,h3,h4,h5⟩:=rz (P:=C.P) hlo hhi hm
     obtain⟨rfl,rfl⟩:=aB (F:=Fa) h4
     have h2':y≤l'.length:=h2
     rcases repE_slT.1 r2' with ⟨hv,e0,_⟩ | ⟨b,off,cap,c,E0,fz,F0,hv,e2,e3,e4,e5⟩
     ·obtain rfl:vp = .slice none 0 0:=by simpa using hv
      rw[e0]at h2'
      have hy:y=0:=by simpa using h2'
      have hx:x=0:=by omega
      subst hy;subst hx
      have hb:=h5 true 0 (by show List.length l'≤0;rw[e0];simp) (fun h=>by cases h)
      have e0':List.length (α:=J E.G.T e) l'=0:=by rw[e0];rfl
      rw[e0']at hb
      refine⟨_,w,qj hT (jH hsl) hb,S,F,V,h,aK _,fun _=>⟨d0,cs,ad,e,l',_,ad',hc,k1,k5,aK _,Nat.zero_le _,.inl ⟨rfl,by simp⟩⟩⟩
     ·rw[bw rfl]at e5
      obtain⟨rfl,hfz,g3,g4,g5⟩:=e5
      obtain rfl:vp=_:=by simpa using hv
      refine⟨_,w,qj hT (jH hsl) (h5 true cap e2 (fun h=>by cases h)),S,F,V,h,aK _,fun _=>⟨d0,cs,ad,e,l',_,ad',hc,k1,k5,h1,h2,.inr ⟨b,l'.length,cap,if cap=x then 0 else x*e.sz E.G.sz,cap-x,rfl,?_,by omega,?_⟩⟩⟩
      ·split <;> simp[gH]
      ·split
       ·exact .inr ⟨rfl,by omega⟩
       ·exact .inl rfl
    | false =>
     rw[hann]at hm
     simp only[cond_false]at hm
     cases lo with
     | some _=>exact aA (F:=Fa) hm
     | none =>
     obtain⟨x,y,h1,h2,h3,h4,h5⟩:=rz (P:=C.P) hlo hhi hm
     obtain rfl:=h3 rfl
     obtain⟨dt,σ2,t1,t2⟩:=az h4
     have hd:=Lw t1 hc hg
     subst hd
     obtain⟨F1,q1,q2,q3,Fd,q4,q5⟩:=ux h (Loose.nil) hp t1
     have h2':y≤l'.length:=h2
     have q4':RepE S w true (.sl e) l' [vp] Fd:=by
      have:RepE S w true (.sl e) l' vp.cells.toList Fd:=q4
      rwa [dP hvp]at this
     obtain⟨Fd',v',hsub,hr',hsh',hrun⟩:∃ Fd' v',Fd'.Sublist Fd∧RepE S w true (.sl e) (l'.take y) [v'] Fd'∧(∀ cs,v' ≠ .agg cs)∧(Instr.sliceAt t vp lov hiv none).run C.P w = .ok v' w:=by
      rcases repE_slT.1 q4' with ⟨hv,e0,f0⟩ | ⟨b,off,cap,c,E0,fz,F0,hv,e2,e3,e4,e5⟩
      ·obtain rfl:vp = .slice none 0 0:=by simpa using hv
       rw[e0]at h2'
       have hy:y=0:=by simpa using h2'
       subst hy
       have hb:=h5 true 0 (by show List.length l'≤0;rw[e0];simp) (fun h=>by cases h)
       have e0':List.length (α:=J E.G.T e) l'=0:=by rw[e0];rfl
       rw[e0']at hb
       refine⟨[],_,List.nil_sublist _,repE_slT.2 (.inl ⟨by simp,by simp,rfl⟩),fun cs h=>(by cases h),qj hT (jH hsl) hb⟩
      ·rw[bw rfl]at e5
       obtain⟨rfl,hfz,g3,g4,rfl⟩:=e5
       obtain rfl:vp=_:=by simpa using hv
       rw[aQ]at e4
       obtain⟨Fx,Fy,x1,x2,x3⟩:=RepL.split (n:=e.sz E.G.sz) (fun x c G h=>RepE.len h) y _ _ _ e4
       have hly:(l'.take y).length=y:=by rw[aU];omega
       refine⟨b::Fx,.slice (some ⟨b,0,none⟩) y cap,?_,repE_sl.2 (.inr ⟨b,0,cap,c,E0,fz,Fx,by rw[hly],by rw[hly];omega,e3,?_,?_⟩),fun cs h=>(by cases h),?_⟩
       ·rw[x1];exact(List.sublist_append_left ..).cons_cons _
       ·rw[hly,aQ]
        rw[List.take_take,Nat.min_eq_left (aM _ h2')]at x2
        exact x2
       ·rw[bw rfl];exact⟨rfl,hfz,g3,g4,rfl⟩
       ·rw[qj hT (jH hsl) (h5 true cap e2 (fun h=>by cases h))]
        congr 2
        split <;> simp[gH]
     rw[aL]at q5
     obtain⟨S',F2,V2,z1,z2,z3,z4⟩:=LL (L:=[]) hnp q1 (by rw[aL];exact q5.sub hsub) (v:=v') (d:=⟨.leaf true (.sl e),List.take y l'⟩) (by rw[dP hsh'];exact hr') hsh' t2
     exact⟨v',w,hrun,S',F2,V2,z2,z3⟩
   ·exact aA (F:=Fa) hm
 ·exact aA (F:=Fa) hm
end
end
section
section
variable {E:Env} {Fa:cr E.Z} {C:Ctx} {σ σ1:St E.G} {a:Act} {w:World} {S:Nat→Prop} {F:Nat→List Nat} {V:Nat→Value} {L:List Nat} {fn:Fn}
theorem xQ(h:Ok C σ a w S F V){p:bX E}{v:Value}(hp:b9 S w σ.slot V p v){d:DV E.G.T}(hm:(rdM (E:=E) p).run Fa σ=some (d,σ1)) :
  σ1=σ∧Shaped d.b v∧∃ Fd,RepB (fun b=>S b∨∃ s,p.slotOf=some s∧b∈F s) w d.b d.x v.cells.toList Fd:=by
 obtain⟨h1,_,h2,Fd,h3,_⟩:=sL h hp hm (S':=fun b=>S b∨∃ s,p.slotOf=some s∧b∈F s) (fun b hb=>.inl hb) (fun s hs b hb=>.inr ⟨s,hs,hb⟩)
 exact⟨h1,h2,Fd,h3⟩
theorem Qi{t:Option FT}(h:nH t=true)(hs:iv t=false):∃ e,t=some (.sl e):=by
 cases t with
 | none=>cases h
 | some ft=>cases ft with
  | sl e=>exact⟨e,rfl⟩
  | str=>cases hs
  | ptr=>cases h
  | int _=>cases h
  | bool=>cases h
  | nm _=>cases h
theorem TD(hT:∀ t ft,E.ty t=some ft→dh E.G C.P E.ty t ft=true)(h:Ok C σ a w S F V){t:TypeId}{ty:TypeId}{ats:Array TypeId}{p r:bX E}{v:Value}(hp:b9 S w σ.slot V p v)(ha:ats[0]? = some t)(hm:(xj (E:=E) (E.ty t) p).run Fa σ=some (r,σ1)) :
  Res C a σ1 r (Builtin.len_ ats ty #[v]) w:=by
 unfold xj at hm
 obtain⟨hseq,hm⟩:=aC hm
 have sl:iv (E.ty t)=false→∃ et,C.P.underlying t=some (.slice et):=by
  intro hs
  obtain⟨e,he⟩:=Qi hseq hs
  obtain⟨inf,z,hty⟩:=TyOK.of (hT t _ he)
  obtain⟨et,h1,_⟩:=hty.desc
  exact⟨et,h1⟩
 split at hm
 ·obtain⟨hs,hm⟩:=aC hm
  obtain⟨rfl,rfl⟩:=aB (F:=Fa) hm
  obtain⟨et,h1⟩:=sl (by simpa using hs)
  have hv:v = .slice none 0 0:=hp
  subst hv
  exact Res.pure h (eb (by decide)) (by simp[Builtin.len_,ha,run_underlying h1,goInt])
 ·rename_i n _
  obtain⟨hs,hm⟩:=aC hm
  obtain⟨rfl,rfl⟩:=aB (F:=Fa) hm
  obtain⟨et,h1⟩:=sl (by simpa using hs)
  obtain⟨⟨base,cap,hv⟩,hn⟩:=(show(∃ base cap,v = .slice base n cap)∧n≤9223372036854775807 from hp)
  subst hv
  exact Res.pure h (eb (by rw[IntKind.wrap_i64];omega)) (by simp[Builtin.len_,ha,run_underlying h1,goInt])
 ·obtain⟨d,σ',h1,h2⟩:=az hm
  obtain⟨rfl,hsh,Fd,hr⟩:=xQ h hp h1
  split at h2
  ·rename_i o l
   obtain⟨hs,h2⟩:=aC h2
   obtain⟨rfl,rfl⟩:=aB (F:=Fa) h2
   obtain⟨inf,z,hty⟩:=TyOK.of (hT t _ (w7 hs))
   have hu:C.P.underlying t=some .string:=hty.desc
   have hsh':∀ cs,v ≠ .agg cs:=hsh
   rw[dP hsh']at hr
   obtain⟨s,e1,e2,_,e3⟩:=repE_str.1 hr
   obtain rfl:v=_:=by simpa using e1
   subst e2
   have e4:List.length (α:=Int) (ct s)=s.size:=fR s
   rw[e4]
   refine Res.pure h (eb ?_) (by simp[Builtin.len_,ha,run_underlying hu,goInt])
   rw[IntKind.wrap_i64];omega
  ·rename_i o e l
   obtain⟨hs,h2⟩:=aC h2
   obtain⟨rfl,rfl⟩:=aB (F:=Fa) h2
   obtain⟨et,hu1⟩:=sl (by simpa using hs)
   have hsh':∀ cs,v ≠ .agg cs:=hsh
   rw[dP hsh']at hr
   obtain⟨l',hl'⟩:∃ l':List (J E.G.T e),l'=l:=⟨l,rfl⟩
   subst hl'
   rcases repE_sl.1 (show RepE _ w o (.sl e) l' [v] Fd from hr)with ⟨e1,e2,_⟩ | ⟨b,off,cap,c,E0,fz,F',e1,e2,e3,e4,e5⟩
   ·obtain⟨base,cap,e1,_⟩:=e1
    obtain rfl:v=_:=by simpa using e1
    subst e2
    exact Res.pure h (eb (k:=.i64) (n:=0) (by decide)) (by simp[Builtin.len_,ha,run_underlying hu1,goInt])
   ·obtain rfl:v=_:=by simpa using e1
    have hb:l'.length≤9223372036854775807:=by
     cases o with
     | true=>rw[bw rfl]at e5;exact Nat.le_trans e2 e5.2.2.2.1
     | false=>rw[bz (by decide)]at e5;exact e5.2.2.2
    refine Res.pure h (eb ?_) (by simp[Builtin.len_,ha,run_underlying hu1,goInt])
    show IntKind.i64.wrap (l'.length:Int)=(l'.length:Int)
    rw[IntKind.wrap_i64];omega
  ·rename_i e l
   obtain⟨hs,h2⟩:=aC h2
   obtain⟨rfl,rfl⟩:=aB (F:=Fa) h2
   obtain⟨et,hu1⟩:=sl (by simpa using hs)
   have hsh':∀ cs,v ≠ .agg cs:=hsh
   rw[dP hsh']at hr
   obtain⟨l',hl'⟩:∃ l':List (J E.G.T e),l'=l:=⟨l,rfl⟩
   subst hl'
   rcases repE_sl.1 (xV (S':=fun _=>True) hr (fun _ _=>trivial) (fun _ _=>trivial))with ⟨e1,e2,_⟩ | ⟨b,off,cap,c,E0,fz,F',e1,e2,e3,e4,e5⟩
   ·obtain⟨base,cap,e1,_⟩:=e1
    obtain rfl:v=_:=by simpa using e1
    subst e2
    exact Res.pure h (eb (k:=.i64) (n:=0) (by decide)) (by simp[Builtin.len_,ha,run_underlying hu1,goInt])
   ·obtain rfl:v=_:=by simpa using e1
    have hb:l'.length≤9223372036854775807:=by
     rw[bz (by decide)]at e5;exact e5.2.2.2
    refine Res.pure h (eb ?_) (by simp[Builtin.len_,ha,run_underlying hu1,goInt])
    show IntKind.i64.wrap (l'.length:Int)=(l'.length:Int)
    rw[IntKind.wrap_i64];omega
  ·exact aA (F:=Fa) h2
theorem Hj{P:Program}{f:Int→Int→Int}{g:Value→Value→Sem Value}{k:IntKind}{sl:Nat→Slot E.G}(hg:∀ x y w,(g (.int k x) (.int k y)).run P w = .ok (.int k (f x y)) w)(hw:∀ x y,k.wrap x=x→k.wrap y=y→k.wrap (f x y)=f x y) :
  ∀ (ps:List (bX E)) (vs:List Value) (x r:Int),k.wrap x=x→PinsOK S w sl V ps vs→pi f k x ps=some r→(vs.foldlM g (.int k x)).run P w = .ok (.int k r) w∧k.wrap r=r:=by
 intro ps
 induction ps with
 | nil =>
  intro vs x r hx hp hf
  have:vs=[]:=hp
  subst this
  cases hf
  exact⟨by simp,hx⟩
 | cons p ps ih =>
  intro vs x r hx hp hf
  obtain⟨v,vs',rfl,h1,h2⟩:=hp
  unfold pi at hf
  cases hi:asI p with
  | none=>rw[hi]at hf;exact b7 hf
  | some kb =>
   rw[hi]at hf
   simp only at hf
   cases hk:(k==kb.1) with
   | false=>rw[hk]at hf;exact b7 hf
   | true =>
    rw[hk]at hf
    simp only[cond_true]at hf
    have hk':=eq_of_beq hk
    obtain⟨rfl,h3⟩:=iL h1 (show asI p=some (kb.1,kb.2)from hi)
    rw[← hk']at h3 ⊢
    obtain⟨h4,h5⟩:=ih vs' _ r (hw _ _ hx h3) h2 hf
    refine⟨?_,h5⟩
    simp only[List.foldlM_cons,Sem.run_bind,hg,aS]
    exact h4
theorem NN(hnp:fn.np=C.np)(hT:∀ t ft,E.ty t=some ft→dh E.G C.P E.ty t ft=true)(h:Ok C σ a w S F V){s t:TypeId}{dst:Option Tmp}{p r:bX E}{v:Value}(hp:b9 S w σ.slot V p v)(hm:(vL (E:=E) fn (E.ty s) (E.ty t) dst p).run Fa σ=some (r,σ1)) :
  Res C a σ1 r (convert s t v) w:=by
 unfold vL at hm
 split at hm
 ·rename_i k0 k o k1 n hs ht
  obtain⟨rfl,rfl⟩:=aB (F:=Fa) hm
  obtain⟨inf,z,hty⟩:=TyOK.of (hT s _ hs)
  obtain⟨inf',z',hty'⟩:=TyOK.of (hT t _ ht)
  have h1:C.P.underlying s=some (.int k0):=hty.desc
  have h2:C.P.underlying t=some (.int k):=hty'.desc
  obtain⟨rfl,_⟩:=qc hp
  exact Res.pure h (eb (iG k n)) (by simp[convert,run_underlying h1,run_underlying h2,Conv.intToInt])
 ·rename_i o l hs ht
  obtain⟨hl,hm⟩:=M.run_chk hm
  obtain⟨inf,z,hty⟩:=TyOK.of (hT s _ hs)
  obtain⟨inf',z',hty'⟩:=TyOK.of (hT t _ ht)
  have h1:C.P.underlying s=some .string:=hty.desc
  obtain⟨et,h2,h3⟩:=hty'.desc
  obtain⟨inf2,z2,hty2⟩:=TyOK.of (hT et _ h3)
  have h4:C.P.underlying et=some (.int .u8):=hty2.desc
  obtain⟨st,rfl,hst,hsz⟩:=nO hp
  subst hst
  have hlen':List.length (α:=Int) (ct st)=st.size:=fR st
  have hrun:=run_bytes_of_string (P:=C.P) w s t et st h1 h2 h4
  let cap:=grownCap w st.size 0 et
  have hcap:st.size≤cap:=grownCap_ge w st.size 0 et
  have hG:Grows w (w.drew.alloc (.cells (bytesRow st cap) et ((bytesRow st cap).size,(bytesRow st cap).size+1))):=(Grows.drew w).trans (Grows.alloc w.drew _)
  have hnew:(w.drew.alloc (.cells (bytesRow st cap) et ((bytesRow st cap).size,(bytesRow st cap).size+1))).heap[w.heap.size]? = some (.cells (bytesRow st cap) et ((bytesRow st cap).size,(bytesRow st cap).size+1)):=heap_alloc_new w.drew _
  have h':=h.grow' hG
  have hL:Loose C (w.drew.alloc (.cells (bytesRow st cap) et ((bytesRow st cap).size,(bytesRow st cap).size+1))) S F ([w.heap.size]++[]):=by
   refine⟨by simp,fun s b hb hb'=>?_,fun b hb hs=>?_,fun b hb=>?_,fun b hb=>?_⟩
   ·simp at hb';subst hb';exact absurd (h.bnd s _ hb) (Nat.lt_irrefl _)
   ·simp at hb;subst hb;exact absurd (h.bndS _ hs) (Nat.lt_irrefl _)
   ·simp at hb;subst hb;exact(Array.getElem?_eq_some_iff.1 hnew).1
   ·simp at hb;subst hb;exact .inr h.grow
  have hlen:List.length (α:=J E.G.T (.int .u8)) (ct st)=st.size:=fR st
  have hrow:(bytesRow st cap).size=cap:=by
   simp only[bytesRow,Array.size_append,Array.size_map,Array.size_replicate]
   have:st.data.size=st.size:=rfl
   omega
  have hsub:((bytesRow st cap).toList.drop 0).take (List.length (α:=J E.G.T (.int .u8)) (ct st)*FT.sz E.G.sz (.int .u8))=(ct st).map (Value.int .u8):=by
   rw[hlen,aQ]
   show List.take (st.size*1) _=_
   rw[Nat.mul_one]
   simp only[bytesRow,Array.toList_append,Array.toList_map]
   rw[List.take_append_of_le_length (by rw[bn,aJ];exact aK _)]
   rw[bg (by rw[bn,aJ];exact aK _)]
   simp[ct]
  have key:∀ (b:Bool) (l:List Int) (S':Nat→Prop) (w':World),(∀ n∈l,IntKind.u8.wrap n=n)→RepL (RepE (G:=E.G) S' w' b (.int .u8)) l (l.map (Value.int .u8)) []:=by
   intro b l S' w'
   induction l with
   | nil=>intro _;exact⟨rfl,rfl⟩
   | cons n l ih=>intro hl;exact⟨[.int .u8 n],l.map (Value.int .u8),[],[],rfl,rfl,repE_int.2 ⟨rfl,hl n (by simp),rfl⟩,ih fun m hm=>hl m (by simp[hm])⟩
  have hby:∀ n∈ct st,IntKind.u8.wrap n=n:=fun n hn=>by
   unfold ct at hn
   obtain⟨u,_,rfl⟩:=List.mem_map.1 hn
   rw[IntKind.wrap_u8]
   have:=u.toNat_lt
   omega
  have shared:Res C a σ (.val ⟨.leaf false (.sl (.int .u8)),ct st⟩) (convert s t (.string st)) w:=by
   obtain⟨g1,g2⟩:=h'.share hL
   refine⟨_,_,hrun,_,F,V,g1,⟨?_,fun cs hcs=>(by cases hcs),rfl⟩⟩
   have hgoal:∀ n,n=st.size→RepE (G:=E.G) (fun b=>S b∨b∈[w.heap.size]) (w.drew.alloc (.cells (bytesRow st cap) et ((bytesRow st cap).size,(bytesRow st cap).size+1))) false (.sl (.int .u8)) (ct st) [.slice (some ⟨w.heap.size,0,none⟩) n cap] []:=?_
   ·exact hgoal _ rfl
   intro n hn
   refine repE_sl.2 (.inr ⟨w.heap.size,0,cap,bytesRow st cap,et,_,[],by rw[hlen,hn],by rw[hlen];exact hcap,hnew,?_,?_⟩)
   ·rw[hsub]
    exact key _ _ _ _ hby
   ·rw[bz (by decide),hlen]
    refine⟨.inr (by simp),rfl,?_,hsz⟩
    show 0+st.size*1≤_
    rw[Nat.zero_add,Nat.mul_one,hrow]
    exact hcap
  have own:∀ (d g:Nat) (σ2:St E.G),(fa (E:=E) fn.np (16*d) false none (.data ⟨.leaf true (.sl (.int .u8)),ct st⟩)).run Fa σ=some (g,σ2)→Res C a σ2 (.ali (16*d) [] g) (convert s t (.string st)) w:=by
   intro d g σ2 hn
   have hrep:RepE (G:=E.G) S (w.drew.alloc (.cells (bytesRow st cap) et ((bytesRow st cap).size,(bytesRow st cap).size+1))) true (.sl (.int .u8)) (ct st) [.slice (some ⟨w.heap.size,0,none⟩) st.size cap] [w.heap.size]:=by
    refine repE_sl.2 (.inr ⟨w.heap.size,0,cap,bytesRow st cap,et,((bytesRow st cap).size,(bytesRow st cap).size+1),[],by rw[hlen],by rw[hlen];exact hcap,hnew,?_,?_⟩)
    ·rw[hsub]
     exact key _ _ _ _ hby
    ·rw[bw rfl]
     refine⟨rfl,⟨.inr (aK _),fun h=>absurd rfl h⟩,by rw[hrow];exact(Nat.mul_one _).symm,?_,rfl⟩
     have:=grownCap_le_maxLen w st.size 0 et (by unfold maxLen;have:=hl;rw[hlen']at this;unfold room at this;omega)
     unfold maxLen at this
     show grownCap w st.size 0 et≤_
     omega
   obtain⟨F',V',m1,m2,m3⟩:=qf hnp h' (L:=[]) (Fd:=[w.heap.size]) hL (d:=⟨.leaf true (.sl (.int .u8)),ct st⟩) (v:=.slice (some ⟨w.heap.size,0,none⟩) st.size cap) hrep (fun cs h=>(by cases h)) hn
   exact⟨_,_,hrun,S,F',V',m1,m2⟩
  cases dst with
  | none=>obtain⟨rfl,rfl⟩:=aB (F:=Fa) hm;exact shared
  | some d =>
   have hm2:M.run Fa (bif Nat.beq (fn.ann d) 1 then(.ret (.val ⟨.leaf false (.sl (.int .u8)),ct st⟩):ME E (bX E))
    else(fa (E:=E) fn.np (16*d) false none (.data ⟨.leaf true (.sl (.int .u8)),ct st⟩)).bind fun g=>.ret (.ali (16*d) [] g)) σ=some (r,σ1):=hm
   cases hann:Nat.beq (fn.ann d) 1 with
   | true =>
    rw[hann]at hm2
    obtain⟨rfl,rfl⟩:=aB (F:=Fa) hm2
    exact shared
   | false =>
    rw[hann]at hm2
    obtain⟨g,σ2,h5,h6⟩:=az hm2
    obtain⟨rfl,rfl⟩:=aB (F:=Fa) h6
    exact own d g _ h5
 ·rename_i hs ht
  obtain⟨rfl,rfl⟩:=aB (F:=Fa) hm
  obtain⟨inf,z,hty⟩:=TyOK.of (hT s _ hs)
  obtain⟨inf',z',hty'⟩:=TyOK.of (hT t _ ht)
  obtain⟨et,h2,h3⟩:=hty.desc
  obtain⟨inf2,z2,hty2⟩:=TyOK.of (hT et _ h3)
  have h4:C.P.underlying et=some (.int .u8):=hty2.desc
  have hv:v = .slice none 0 0:=hp
  subst hv
  refine Res.pure h (v:=.string .empty) (qd (s:=.empty) (by decide)) ?_
  rw[run_convert_bytes_string w s t et none 0 0 h2 h4 hty'.desc]
  rfl
 ·rename_i hs ht hnil
  obtain⟨d,σ',h1,h2⟩:=az hm
  obtain⟨rfl,hsh,Fd,hr⟩:=xQ h hp h1
  split at h2
  ·rename_i o l
   obtain⟨rfl,rfl⟩:=aB (F:=Fa) h2
   obtain⟨inf,z,hty⟩:=TyOK.of (hT s _ hs)
   obtain⟨inf',z',hty'⟩:=TyOK.of (hT t _ ht)
   obtain⟨et,hu2,h3⟩:=hty.desc
   obtain⟨inf2,z2,hty2⟩:=TyOK.of (hT et _ h3)
   have h4:C.P.underlying et=some (.int .u8):=hty2.desc
   have hsh':∀ cs,v ≠ .agg cs:=hsh
   rw[dP hsh']at hr
   obtain⟨l',hl'⟩:∃ l':List Int,l'=l:=⟨l,rfl⟩
   subst hl'
   rcases repE_sl.1 (show RepE _ w o (.sl (.int .u8)) l' [v] Fd from hr)with ⟨e1,e2,_⟩ | ⟨b,off,cap,c,E0,fz,F',e1,e2,e3,e4,e5⟩
   ·obtain⟨base,cap,e1,_⟩:=e1
    obtain rfl:v=_:=by simpa using e1
    subst e2
    refine Res.pure h (v:=.string .empty) (qd (s:=.empty) (by decide)) ?_
    rw[run_convert_bytes_string w s t et base 0 cap hu2 h4 hty'.desc]
    cases base with
    | none=>rfl
    | some b=>rfl
   ·obtain rfl:v=_:=by simpa using e1
    have hb:l'.length≤9223372036854775807:=by
     cases o with
     | true=>rw[bw rfl]at e5;exact Nat.le_trans e2 e5.2.2.2.1
     | false=>rw[bz (by decide)]at e5;exact e5.2.2.2
    have key:∀ (S':Nat→Prop) (l:List Int) (cs:List Value) (Fx:List Nat),RepL (RepE (G:=E.G) S' w o (.int .u8)) l cs Fx→cs=l.map (Value.int .u8)∧∃ us:List UInt8,l=us.map fun u=>(u.toNat:Int):=by
     intro S' l
     induction l with
     | nil=>intro cs Fx h;exact⟨h.1,[],rfl⟩
     | cons n l ih =>
      rintro cs Fx ⟨c1,c2,F1,F2,rfl,_,k3,k4⟩
      obtain⟨q1,q2,_⟩:=repE_int.1 k3
      obtain⟨r1,us,r2⟩:=ih _ _ k4
      refine⟨by rw[q1,r1];rfl,UInt8.ofNat n.toNat::us,?_⟩
      rw[IntKind.wrap_u8]at q2
      simp only[bj,← r2]
      congr 1
      have:n.toNat<256:=by omega
      simp[UInt8.toNat_ofNat_of_lt' this]
      omega
    obtain⟨q1,us,q2⟩:=key _ _ _ _ e4
    subst q2
    have hml:List.length (us.map fun u=>(u.toNat:Int))=us.length:=bn _
    have e4':=e4
    rw[hml]at hb
    have q1':List.take (us.length*1) (List.drop off c.toList)=List.map (Value.int .u8) (us.map fun u=>(u.toNat:Int)):=by rw[← hml];exact q1
    refine Res.pure h (v:=.string ⟨us.toArray⟩) ?_ ?_
    ·have:ct ⟨us.toArray⟩=us.map fun u=>(u.toNat:Int):=by simp[ct]
     rw[← this]
     refine qd ?_
     show us.toArray.size≤_
     simpa using hb
    ·show(convert s t (.slice (some ⟨b,off,none⟩) (List.length (us.map fun u=>(u.toNat:Int))) cap)).run C.P w=_
     rw[hml]
     show(convert s t (.slice (some ⟨b,off,none⟩) us.length cap)).run C.P w=_
     refine run_convert_bytes_back w s t et ⟨b,off,none⟩ cap us hu2 h4 hty'.desc fun j hj=>?_
     rw[gH]
     simp only[World.cell?,e3]
     have hcj:=congrArg (fun l=>l[j]?) q1'
     simp only[List.map_map,List.getElem?_map,List.getElem?_eq_getElem hj]at hcj
     rw[List.getElem?_take,bw (by show j<us.length*1;omega),List.getElem?_drop]at hcj
     simpa using hcj
  ·exact aA (F:=Fa) h2
 ·exact aA (F:=Fa) hm
end
end
end Go.Proofs.YtemajhlhgphhjaaGreatDoor.E
