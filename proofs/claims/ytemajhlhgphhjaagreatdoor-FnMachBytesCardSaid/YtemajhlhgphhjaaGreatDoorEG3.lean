/- The engine (operations and calls). No condition. -/
import Derived.Test.YtemajhlhgphhjaaGreatDoorEG2
import Derived.Deep.Upon
import Derived.Great.FillDense
import Derived.Great.BuildSlice
import Derived.Lib.LaidTab
import Derived.Orders
namespace Go.Proofs.YtemajhlhgphhjaaGreatDoor.E
set_option linter.unusedVariables false
set_option linter.defProp false
section
def aP:=@List.cons.inj
def ba:=@List.length_eq_zero_iff
def bf:=@List.length_replicate
def bl:=@List.nil_append
section
variable {E:Env} {Fa:cr E.Z} {C:Ctx} {σ σ1:St E.G} {a:Act} {w:World} {S:Nat→Prop} {F:Nat→List Nat} {V:Nat→Value} {L:List Nat} {fn:Fn}
theorem jk(h:Ok C σ a w S F V)(hL:Loose C w S F L){t:Option FT}{p:bX E}{v:Value}(hp:b9 S w σ.slot V p v){d:DV E.G.T}(hr:(eK (E:=E) t p).run Fa σ=some (d,σ1)) :
  ∃ F1,Ok C σ1 a w S F1 V∧d.b.whole=true∧Shaped d.b v∧∃ Fd,RepB S w d.b d.x v.cells.toList Fd∧Loose C w S F1 (Fd++L):=by
 by_cases hn:p = .nil
 ·subst hn
  have hv:v = .slice none 0 0:=hp
  subst hv
  unfold eK at hr
  cases t with
  | none=>exact aA (F:=Fa) hr
  | some ft=>cases ft with
   | sl e =>
    obtain⟨rfl,rfl⟩:=aB (F:=Fa) hr
    exact⟨F,h,rfl,fun cs h=>(by cases h),[],repE_slT.2 (.inl ⟨rfl,rfl,rfl⟩),hL⟩
   | _=>exact aA (F:=Fa) hr
 ·by_cases hpt:∃ s q off g,p = .ptr s q off g
  ·obtain⟨s,q,off,g,rfl⟩:=hpt
   obtain⟨b,o,hv⟩:=hp.1.2
   unfold eK at hr
   cases t with
   | none=>exact aA (F:=Fa) hr
   | some ft=>cases ft with
    | ptr =>
     obtain⟨rfl,rfl⟩:=aB (F:=Fa) hr
     exact⟨F,h,rfl,fun cs h=>(by rw[hv]at h;cases h),[],repE_ptr.2 ⟨_,by rw[hv];rfl,rfl⟩,hL⟩
    | _=>exact aA (F:=Fa) hr
  ·have:eK (E:=E) t p=iE p:=by cases p <;> first | rfl | exact absurd rfl hn | exact absurd ⟨_,_,_,_,rfl⟩ hpt
   rw[this]at hr
   exact ux h hL hp hr
theorem Mg:∀ (ts:List FT) (cs:List Value),RepFs (fun t y=>RepE (G:=E.G) S w true t y) ts (iH E.G.zero ts) cs []→RepB S w (mX E.G ts).b (mX E.G ts).x cs []
 | [],cs,h=>h
 | t::ts,cs,⟨c1,c2,F1,F2,h1,h2,h3,h4⟩=>by
  have e1:F1=[]:=(List.append_eq_nil_iff.1 h2.symm).1
  have e2:F2=[]:=(List.append_eq_nil_iff.1 h2.symm).2
  subst e1
  subst e2
  have h5:=Mg ts c2 h4
  cases t with
  | sl e =>
   refine⟨c1,c2,[],[],h1,rfl,?_,h5⟩
   rcases repE_slT.1 (show RepE (G:=E.G) S w true (.sl e) ([]:List (J E.G.T e)) c1 []from h3)with h | ⟨b,off,cap,c,E0,fz,F',_,_,_,_,k⟩
   ·exact .inl h
   ·rw[bw rfl]at k;cases k.2.2.2.2
  | int k=>exact⟨c1,c2,[],[],h1,rfl,h3,h5⟩
  | bool=>exact⟨c1,c2,[],[],h1,rfl,h3,h5⟩
  | str=>exact⟨c1,c2,[],[],h1,rfl,h3,h5⟩
  | ptr=>exact⟨c1,c2,[],[],h1,rfl,h3,h5⟩
  | nm n=>exact⟨c1,c2,[],[],h1,rfl,h3,h5⟩
theorem Mw{k:Nat}{ft:FT}{cs:List Value}(h:RepE (G:=E.G) S w true ft (cP E.G.zero ft) cs []):RepB S w (oU E.G k ft).b (oU E.G k ft).x cs []:=by
 unfold oU
 cases Nat.beq k 7 with
 | false=>cases ft <;> exact h
 | true =>
  cases ft with
  | nm n =>
   refine Mg _ _ ?_
   have h2:=repE_nm.1 h
   have e:E.G.un n (cP E.G.zero (.nm n))=iH E.G.zero (E.G.fs n):=E.G.un_zero n
   rwa [e]at h2
  | _=>exact h
theorem Mx(hnp:fn.np=C.np)(hT:∀ t ft,E.ty t=some ft→dh E.G C.P E.ty t ft=true)(h:Ok C σ a w S F V){t:TypeId}{dst:Option Tmp}{r:bX E}(hm:(vk (E:=E) fn (E.ty t) dst).run Fa σ=some (r,σ1)) :
  Res C a σ1 r (Instr.alloc t true (.tuple #[])) w:=by
 unfold vk at hm
 split at hm
 ·rename_i d ft ht
  obtain⟨inf,z,hty⟩:=TyOK.of (hT t _ ht)
  obtain⟨F',V',k1,k2,k3,_⟩:=EW hnp h (Fd:=[]) (L:=[]) Loose.nil (dv:=oU E.G (fn.ann d) ft) (v:=z) (Mw (hty.zrep S w true)) (fun i hi=>by cases hi) t hm
  refine⟨_,_,?_,S,F',V',k1,k2⟩
  simp only[Instr.alloc,Sem.run_bind,hty.run_zero,aS,newVar,newRow]
  simp
 ·exact aA (F:=Fa) hm
theorem Lv{s:Nat}{p:cT}{g:Nat}{t:Option FT}{d:DV E.G.T}(hm:(eK (E:=E) t (.ali s p g)).run Fa σ=some (d,σ1)):dK (σ.slot s) p g=true:=by
 obtain⟨σ2,hm,_⟩:=qG hm
 change M.run Fa (match (σ.slot s).cont with
   | .data d=>need (dK (σ.slot s) p g) (match get E.G p d with
    | some c=>bif c.b.cp E.G then .ret c else need c.b.whole <|
     bif (σ.slot s).box then need (cZ p) (match put E.G ⟨.hole (c.b.sz E.G),()⟩ p d with
      | some d'=>.setS s { σ.slot s with gen:=(σ.slot s).gen+1,orig:=none,cont:=.data d' } (.ret c)
      | none=>.fail)
     else .setS s { σ.slot s with gen:=(σ.slot s).gen+1,born:=(σ.slot s).gen+1,cont:=.dead } (.ret c)
    | none=>.fail)
   | .frz d=>fS (σ.slot s) p g d
   | _=>.fail) σ=some (d,σ2)at hm
 cases hc:(σ.slot s).cont with
 | dead=>rw[hc]at hm;exact aA (F:=Fa) hm
 | word _=>rw[hc]at hm;exact aA (F:=Fa) hm
 | frz d0=>rw[hc]at hm;exact(Gz hm).2
 | data d0=>rw[hc]at hm;exact(aC hm).1
theorem Ly{s:Nat}{p:cT}{g:Nat}{t:Option FT}{d:DV E.G.T}(hbx:(σ.slot s).box=true)(hm:(eK (E:=E) t (.ali s p g)).run Fa σ=some (d,σ1)):∃ d0,(σ.slot s).cont = .data d0:=by
 obtain⟨σ2,hm,_⟩:=qG hm
 change M.run Fa (match (σ.slot s).cont with
   | .data d=>_
   | .frz d=>fS (σ.slot s) p g d
   | _=>.fail) σ=some (d,σ2)at hm
 cases hc:(σ.slot s).cont with
 | dead=>rw[hc]at hm;exact aA (F:=Fa) hm
 | word _=>rw[hc]at hm;exact aA (F:=Fa) hm
 | frz d0=>rw[hc]at hm;exact absurd (hbx.symm.trans (Gz hm).1) (by decide)
 | data d0=>exact⟨d0,rfl⟩
theorem M1(hnp:fn.np=C.np)(h:Ok C σ a w S F V){t:TypeId}{dst:Option Tmp}{p r:bX E}{v:Value}(hp:b9 S w σ.slot V p v)(hm:(ri (E:=E) fn (E.ty t) dst p).run Fa σ=some (r,σ1)) :
  ∃ v' w',(Instr.box t v).run C.P w = .ok v' w'∧(∃ b E0,v' = .pointer (some ⟨b,0,none⟩)∧w'.heap[b]? = some (.cells v.cells E0 (0,0)))∧∃ S' F' V',Ok C σ1 a w' S' F' V'∧b9 S' w' σ1.slot V' r v'∧∀ s0 q o g,r = .ptr s0 q o g→∀ s',s'≠s0→V' s'=V s':=by
 unfold ri at hm
 split at hm
 ·rename_i d ft ht
  obtain⟨og,σ',h1,h2⟩:=az hm
  obtain⟨dv,σ2,h3,h4⟩:=az h2
  obtain⟨h5,h6⟩:=aC h4
  have hog:σ'=σ∧∀ i,og=some i→v.cells.toList=(C.V0 (16*i)).cells.toList:=by
   unfold I4 at h1
   split at h1
   ·rename_i s g
    rw[M.run_getS]at h1
    obtain⟨e1,rfl⟩:=aB (F:=Fa) h1
    refine⟨rfl,fun i hi=>?_⟩
    have hcur:=Lv h3
    obtain⟨q1,q2,q3⟩:=hp
    rw[e1]at hi
    cases hb:(σ'.slot s).box with
    | true =>
     rw[hb]at hi
     simp only[cond_true]at hi
     simp only[dK,hb,cond_true]at hcur
     obtain⟨d1,cs,ad,d',cs',ad',k1,k2,k3,k4,k5⟩:=q3 (cn hcur)
     obtain⟨d0,hd0⟩:=Ly hb h3
     have:=h.orig s i hi hb (by rw[hd0];simp) cs ad k2
     simp only[loc,Option.some.injEq,Prod.mk.injEq]at k3
     rw[k4,← k3.2.1,this]
    | false =>
     rw[hb]at hi
     simp only[cond_false]at hi
     simp only[dK,hb,cond_false]at hcur
     have hv:=q2 rfl hb (aG hcur)
     cases hc:(Nat.blt s (16*fn.np)&&Nat.beq (s%16) 0) with
     | false=>rw[hc]at hi;cases hi
     | true =>
      rw[hc]at hi
      simp only[aD]at hc
      have c1:s<16*fn.np:=aG hc.1
      have c2:=cn hc.2
      obtain rfl:s/16=i:=by simpa using hi
      rw[hv,h.V0 s (by rw[← hnp];exact c1)]
      congr 3
      omega
   ·obtain⟨rfl,rfl⟩:=aB (F:=Fa) h1
    exact⟨rfl,fun i hi=>by cases hi⟩
  obtain⟨rfl,hog⟩:=hog
  obtain⟨F1,g1,g2,g3,Fd,g4,g5⟩:=jk h (L:=[]) Loose.nil hp h3
  obtain⟨F',V',k1,k2,k3,k4⟩:=EW hnp g1 g5 g4 hog t h6
  refine⟨_,_,?_,⟨w.heap.size,t,rfl,heap_alloc_new w (.cells v.cells t)⟩,S,F',V',k1,k2,k4⟩
  simp[Instr.box,newVar,newRow]
 ·exact aA (F:=Fa) hm
theorem Qq(h:Ok C σ a w S F V){p:bX E}{v:Value}(hp:b9 S w σ.slot V p v){kn:Option (Nat×Nat)}(hm:(sn (E:=E) p).run Fa σ=some (kn,σ1)) :
  σ1=σ∧∀ s' g',kn=some (s',g')→(∃ b,V s' = .pointer (some ⟨b,0,none⟩))∧v.cells[0]? = some (V s'):=by
 have none_ok:∀ {σ0:St E.G},(M.ret none:ME E (Option (Nat×Nat))).run Fa σ0=some (kn,σ1)→σ1=σ0∧∀ s' g',kn=some (s',g')→(∃ b,V s' = .pointer (some ⟨b,0,none⟩))∧v.cells[0]? = some (V s'):=fun hm=>by
  obtain⟨rfl,rfl⟩:=aB (F:=Fa) hm
  exact⟨rfl,fun s' g' h=>by cases h⟩
 unfold sn at hm
 split at hm
 ·rename_i s g
  rw[M.run_getP]at hm
  split at hm
  ·rename_i s0 gs s' g' hq
   rw[M.run_getS,M.run_getS]at hm
   cases hc:(Nat.beq s0 s&&(Nat.beq gs (σ.slot s).gen&&(!(σ.slot s).box&&(Nat.ble (σ.slot s).born g&&Nat.ble (σ.slot s').born g')))) with
   | false=>rw[hc]at hm;exact none_ok hm
   | true =>
    rw[hc]at hm
    obtain⟨rfl,rfl⟩:=aB (F:=Fa) (show(M.ret (some (s',g')):ME E (Option (Nat×Nat))).run Fa σ=some (kn,σ1)from hm)
    refine⟨rfl,fun s2 g2 e=>?_⟩
    cases e
    simp only[aD,Bool.not_eq_true']at hc
    obtain⟨c1,c2,c3,c4,c5⟩:=hc
    have c1':=cn c1
    subst c1'
    have hw:=h.pins (wT s0)
    rw[hq]at hw
    obtain⟨w1,⟨w2,w3⟩,w4⟩:=hw
    have hb:=aG c5
    refine⟨(w3 hb).2,?_⟩
    have hcell:=(w4 (cn c2) hb).2
    have hv:v=V s0:=hp.2.1 rfl c3 (aG c4)
    unfold fd at hcell
    rw[bz (by rw[c3];decide)]at hcell
    rw[hv];exact hcell
  ·exact none_ok hm
 ·exact none_ok hm
theorem TH{σ2:St E.G}{w':World}{S':Nat→Prop}{F':Nat→List Nat}{V':Nat→Value}(h1:Ok C σ1 a w' S' F' V'){kn:Option (Nat×Nat)}{r r':bX E}{v v':Value}
  (hkn:∀ s' g',kn=some (s',g')→(∃ b,V s' = .pointer (some ⟨b,0,none⟩))∧v.cells[0]? = some (V s')) (hb:∃ b E0,v' = .pointer (some ⟨b,0,none⟩)∧w'.heap[b]? = some (.cells v.cells E0 (0,0)))
  (hr:b9 S' w' σ1.slot V' r v') (hV:∀ s0 q o g,r = .ptr s0 q o g→∀ s',s'≠s0→V' s'=V s') (hm:(sw (E:=E) kn r).run Fa σ1=some (r',σ2)):Ok C σ2 a w' S' F' V'∧b9 S' w' σ2.slot V' r' v':=by
 have same:∀ {σ0:St E.G},σ0=σ1→(M.ret r:ME E (bX E)).run Fa σ0=some (r',σ2)→Ok C σ2 a w' S' F' V'∧b9 S' w' σ2.slot V' r' v':=fun e hx=>by
  subst e
  obtain⟨rfl,rfl⟩:=aB (F:=Fa) hx
  exact⟨h1,hr⟩
 unfold sw at hm
 split at hm
 ·rename_i s' g' s g
  rw[M.run_getS,M.run_getS]at hm
  cases hc:(Nat.beq (σ1.slot s).gen g&&(Nat.ble (σ1.slot s).born g&&((σ1.slot s).box&&(gw (σ1.slot s).cont&&((σ1.slot s').box&&(Nat.ble (σ1.slot s').born g'&&(Nat.ble g' (σ1.slot s').gen && !Nat.beq s' s))))))) with
  | false=>rw[hc]at hm;exact same rfl hm
  | true =>
   rw[hc]at hm
   rw[cond_true,M.run_setP]at hm
   obtain⟨rfl,rfl⟩:=aB (F:=Fa) hm
   simp only[aD,Bool.not_eq_true']at hc
   obtain⟨c1,c2,c3,c4,c5,c6,c7,c8⟩:=hc
   obtain⟨⟨bu,hVu⟩,hcell⟩:=hkn s' g' rfl
   have hne:s'≠s:=fun e=>by rw[e]at c8;simp at c8
   have hVs:=hV s [] 0 g rfl s' hne
   obtain⟨hbx,bb,hVb,hvb⟩:=hr.2.1 rfl (aG c2)
   obtain⟨b,E0,e1,e2⟩:=hb
   rw[hvb]at e1
   cases e1
   refine⟨h1.repin ?_,hr⟩
   refine⟨by rw[cn c1];exact aK _,⟨aG c7,fun _=>⟨c5,bu,by rw[hVs];exact hVu⟩⟩,fun _ _=>⟨?_,?_⟩⟩
   ·unfold gw at c4
    split at c4
    ·rename_i d hd;exact⟨d,hd⟩
    ·cases c4
   ·unfold fd
    rw[bw c3]
    exact⟨bb,v.cells,E0,(0,0),hVb,e2,by rw[hVs];exact hcell⟩
 ·exact same rfl hm
theorem TG{σ2:St E.G}(h1:Ok C σ1 a w S F V){parts:List (Nat×Operand)}{r r':bX E}{v:Value}(hcell:∀ x rest u,parts=(0,x)::rest→(a.eval x).cells.toList=[u]→v.cells[0]? = some u)
  (hr:b9 S w σ1.slot V r v) (hm:(xk (E:=E) parts r).run Fa σ1=some (r',σ2)):Ok C σ2 a w S F V∧b9 S w σ2.slot V r' v:=by
 have same:∀ {σ0:St E.G},σ0=σ1→(M.ret r:ME E (bX E)).run Fa σ0=some (r',σ2)→Ok C σ2 a w S F V∧b9 S w σ2.slot V r' v:=fun e hx=>by
  subst e
  obtain⟨rfl,rfl⟩:=aB (F:=Fa) hx
  exact⟨h1,hr⟩
 unfold xk at hm
 split at hm
 ·rename_i x rest s g
  obtain⟨q,σ3,h2,h3⟩:=az hm
  obtain⟨rfl,hq⟩:=cY h1 h2
  split at h3
  ·rename_i s' g'
   rw[M.run_getS,M.run_getS]at h3
   cases hc:(!(σ3.slot s).box&&(Nat.ble (σ3.slot s).born g&&(gw (σ3.slot s).cont&&((σ3.slot s').box&&Nat.ble (σ3.slot s').born g')))) with
   | false=>rw[hc]at h3;exact same rfl h3
   | true =>
    rw[hc]at h3
    rw[cond_true,M.run_setP]at h3
    obtain⟨rfl,rfl⟩:=aB (F:=Fa) h3
    simp only[aD,Bool.not_eq_true']at hc
    obtain⟨c1,c2,c3,c4,c5⟩:=hc
    obtain⟨_,bu,hVu,hu⟩:=hq.2.1 rfl (aG c5)
    have hvs:v=V s:=hr.2.1 rfl c1 (aG c2)
    refine⟨h1.repin ?_,hr⟩
    refine⟨aK _,⟨hq.1.1,fun _=>⟨c4,bu,hVu⟩⟩,fun _ _=>⟨?_,?_⟩⟩
    ·unfold gw at c3
     split at c3
     ·rename_i d hd;exact⟨d,hd⟩
     ·cases c3
    ·unfold fd
     rw[bz (by rw[c1];decide),← hvs,hVu]
     exact hcell x rest _ rfl (by rw[hu];rfl)
  ·exact same rfl h3
 ·exact same rfl hm
theorem YM(hT:∀ t ft,E.ty t=some ft→dh E.G C.P E.ty t ft=true)(h:Ok C σ a w S F V){t:TypeId}{ao:Operand}{p:bX E}{v:Value}(hp:b9 S w σ.slot V p v)(hm:(EQ (E:=E) (E.ty t) ao p).run Fa σ=some ((),σ1)) :
  ∃ w',(Instr.storeAt t (a.eval ao) v).run C.P w = .ok () w'∧∃ S' F' V',Ok C σ1 a w' S' F' V':=by
 unfold EQ at hm
 obtain⟨d,σ2,h1,h2⟩:=az hm
 obtain⟨pa,σ3,h3,h4⟩:=az h2
 obtain⟨F1,g1,g2,g3,Fd,g4,g5⟩:=jk h (L:=[]) Loose.nil hp h1
 obtain⟨rfl,ha⟩:=cY g1 h3
 split at h4
 ·rename_i s pth off g ft ht
  rw[M.run_getS]at h4
  split at h4
  ·rename_i c hc
   split at h4
   ·rename_i c' hg
    obtain⟨h5,h6⟩:=aC h4
    simp only[aD]at h5
    obtain⟨inf,z,hty⟩:=TyOK.of (hT t _ ht)
    have hl:v.cells.toList.length=ft.sz E.G.sz:=(RepB.len g4).trans ((ji deep).1 _ _ h5.1)
    unfold Jj at h6
    rw[M.run_getS]at h6
    obtain⟨_,σp,h7,h8⟩:=az h6
    obtain⟨b,o,cc,E0,fz,k1,k2,kf,k3,k4⟩:=U1 g1 g5 ha g4 hl hc hg ((ji deep).1 _ _ h5.2) h7
    obtain⟨w',r1,r2,r3,r4,r5,r6⟩:=JB hty w k2 kf hl k3 (RepB.one g2 g4)
    obtain⟨⟨F',m1,m2⟩,m3⟩:=k4 w' r2 r3 r4 r5 r6
    obtain⟨f1,f2⟩:=U0 h7
    have hfin:∃ F',Ok C σ1 a w' S F' V:=by
     cases hk:pW pth off with
     | false =>
      rw[hk]at h8
      obtain⟨_,rfl⟩:=aB (F:=Fa) h8
      exact⟨F',m1⟩
     | true =>
      rw[hk]at h8
      obtain⟨σ4,q1,q2,_⟩:=FM g1 m1 (by rw[f1]) (fun s' hs=>by rw[f2 s' hs]) (m3 hk) h8
      obtain⟨_,rfl⟩:=aB (F:=Fa) q1
      exact⟨F',q2⟩
    obtain⟨F2,m4⟩:=hfin
    exact⟨w',by rw[k1];simp[Instr.storeAt,Instr.sureAddr,r1],S,F2,V,m4⟩
   ·exact aA (F:=Fa) h4
  ·exact aA (F:=Fa) h4
 ·exact aA (F:=Fa) h4
theorem Qn(hT:∀ t ft,E.ty t=some ft→dh E.G C.P E.ty t ft=true)(h:Ok C σ a w S F V){t:TypeId}{ao:Operand}{p:bX E}{v:Value}(hp:b9 S w σ.slot V p v)(hm:(w9 (E:=E) (E.ty t) ao p).run Fa σ=some ((),σ1)) :
  ∃ w',(Instr.storeAt t (a.eval ao) v).run C.P w = .ok () w'∧∃ S' F' V',Ok C σ1 a w' S' F' V':=by
 unfold w9 at hm
 obtain⟨d,σ2,h1,h2⟩:=az hm
 obtain⟨pa,σ3,h3,h4⟩:=az h2
 obtain⟨rfl,hwh,_,Fd,g4,_,_⟩:=sL h hp h1 (S':=fun b=>S b∨∃ s,p.slotOf=some s∧b∈F s) (fun b hb=>.inl hb) (fun s hs b hb=>.inr ⟨s,hs,hb⟩)
 obtain⟨rfl,ha⟩:=cY h h3
 split at h4
 ·rename_i s g ft ht
  obtain⟨h5,h6⟩:=aC h4
  simp only[aD]at h5
  obtain⟨hni,hsh⟩:=h5
  rw[M.run_getS]at h6
  split at h6
  ·rename_i c hc
   obtain⟨h7,h8⟩:=aC h6
   simp only[aD]at h7
   obtain⟨hok,hbx,hsc⟩:=h7
   rw[M.run_setS]at h8
   obtain⟨_,rfl⟩:=aB (F:=Fa) h8
   obtain⟨inf,z,hty⟩:=TyOK.of (hT t ft ht)
   have hl:v.cells.toList.length=ft.sz E.G.sz:=(RepB.len g4).trans ((ji deep).1 _ _ hsh)
   have hcur:(σ3.slot s).born≤g:=by
    simp only[gS,aD]at hok
    exact aG hok.1
   obtain⟨_,b,hV,hav⟩:=ha.2.1 rfl hcur
   have hs:=h.slots s
   unfold cO at hs
   rw[hc]at hs
   simp only at hs
   rw[bw hbx]at hs
   obtain⟨b',cc,E0,F',e1,e2,e3,e4⟩:=hs
   rw[hV]at e1
   cases e1
   have hcl:cc.toList.length=ft.sz E.G.sz:=(RepB.len e4).trans ((ji deep).1 _ _ hsc)
   obtain⟨w',r1,r2,r3,r4,r5,r6⟩:=JB hty w (off:=0) e2 (.inl rfl) hl (by rw[← hcl];simp) (RepB.one hwh g4)
   obtain⟨⟨c0,c1,E1,fz,u1,u2,u3,u4⟩,u5⟩:=r2
   rw[e2]at u1
   cases u1
   have hc1:c1.toList=v.cells.toList:=by
    rw[u4,List.take_zero,bl,Nat.zero_add,hl,← hcl,List.drop_length,aL]
   have hbs:b∈F s:=by rw[e3];exact aH ..
   have hS':∀ x,S x→S x∧w'.heap[x]? = w.heap[x]?:=fun x hx=>⟨hx,u5 x fun e=>h.notSd hc b hbs (e ▸ hx)⟩
   have hoth:∀ s',s'≠s→∀ x∈F s',w'.heap[x]? = w.heap[x]?:=fun s' hne x hx=>u5 x fun e=>h.apart s' s hne x hx (e ▸ hbs)
   have hpin:b9 S w' (upd σ3.slot s { σ3.slot s with gen:=(σ3.slot s).gen+1,orig:=none,cont:=.word p }) (upd V s (V s)) p v:=by
    refine iA h.slots hS' (fun s'=>?_) p v hp
    by_cases e:s'=s
    ·subst e;rw[ck,ck];exact .inr ⟨Nat.lt_succ_self _,.inr ⟨rfl,rfl,rfl⟩⟩
    ·rw[cj _ _ e,cj _ _ e];exact .inl ⟨rfl,rfl,hoth s' e⟩
   have hok':=h.turn (s0:=s) (x':={ σ3.slot s with gen:=(σ3.slot s).gen+1,orig:=none,cont:=.word p }) (v':=V s) (F':=[b]) (S':=S) (w':=w') hS' hoth (Nat.lt_succ_self _) (.inr ⟨rfl,rfl,rfl⟩) (Nat.le_succ_of_le (h.born s))
    (by
     unfold cO
     exact⟨hbx,b,c1,E0,v,hV,u2,rfl,hc1,hpin⟩) (by simp) (fun x hx=>by rw[aN.1 hx];exact h.notSd hc b hbs)
    (fun s' hne x hx=>⟨fun hx'=>by rw[aN.1 hx']at hx;exact h.apart s' s hne b hx hbs,h.notS s' x hx⟩) (fun x hx=>by rw[aN.1 hx,r3];exact h.bnd s b hbs) (fun x hx=>by rw[r3];exact h.bndS x hx) (by rw[r3];exact aK _)
    (fun x q1 q2=>u5 x fun e=>by
     subst e
     rcases h.fromF s x hbs with q3 | q3
     ·exact q2 q3
     ·omega)
    (fun x hx=>by rw[aN.1 hx];exact h.fromF s b hbs) h.fromS r4 r5 r6 (fun _=>rfl) (fun i q1=>by cases q1)
   exact⟨w',by rw[hav];simp[Instr.storeAt,Instr.sureAddr,r1],S,_,_,hok'⟩
  ·exact aA (F:=Fa) h6
 ·exact aA (F:=Fa) h4
theorem Fi{G:Gam}{e:FT}{z:List Value}{x:J G.T e}(hz:∀ o,RepE (G:=G) S w o e x z []):∀ n,RepL (RepE S w true e) (List.replicate n x) (List.replicate n z).flatten []
 | 0=>⟨rfl,rfl⟩
 | n+1=>⟨z,(List.replicate n z).flatten,[],[],by rw[List.replicate_succ,List.flatten_cons],rfl,hz true,Fi hz n⟩
theorem xP(z:Array Value)(hp:0<z.size):∀ n,(List.range (n*z.size)).map (fun i=>z[i%z.size]!)=(List.replicate n z.toList).flatten
 | 0=>by simp
 | n+1=>by
  rw[List.replicate_succ',List.flatten_append,← xP z hp n,Nat.add_mul,Nat.one_mul,List.range_add,List.map_append,List.map_map]
  congr 1
  rw[List.flatten_singleton]
  apply List.ext_getElem
  ·simp
  ·intro i h1 h2
   have hi:i<z.size:=by simpa using h1
   simp only[List.getElem_map,List.getElem_range,Function.comp]
   rw[Nat.mul_add_mod_self_right,Nat.mod_eq_of_lt hi]
   simp[hi]
theorem Mf(z:Array Value)(hp:0<z.size)(n:Nat):(Builtin.zeroCells z n).toList=(List.replicate n z.toList).flatten:=by
 rw[← xP z hp n]
 simp[Builtin.zeroCells]
theorem LO(n:Nat)(h:n≤9223372036854775807):IntKind.i64.wrap (n:Int)=(n:Int):=by rw[IntKind.wrap_i64];omega
theorem xp(h:Ok C σ a w S F V)(hL:Loose C w S F L)(w':World)(hw:w'.heap.size=w.heap.size+1):Loose C w' S F (w.heap.size::L):=by
 refine⟨List.nodup_cons.2 ⟨fun hx=>absurd (hL.bnd _ hx) (Nat.lt_irrefl _),hL.nd⟩,fun s b hb hb'=>?_,fun b hb hs=>?_,fun b hb=>?_,fun b hb=>?_⟩
 ·rcases aO.1 hb' with rfl | hb'
  ·exact absurd (h.bnd s _ hb) (Nat.lt_irrefl _)
  ·exact hL.apart s b hb hb'
 ·rcases aO.1 hb with rfl | hb
  ·exact absurd (h.bndS _ hs) (Nat.lt_irrefl _)
  ·exact hL.notS b hb hs
 ·rcases aO.1 hb with rfl | hb
  ·omega
  ·have:=hL.bnd b hb;omega
 ·rcases aO.1 hb with rfl | hb
  ·exact .inr h.grow
  ·exact hL.fromF b hb
theorem TX(hnp:fn.np=C.np)(hT:∀ t ft,E.ty t=some ft→dh E.G C.P E.ty t ft=true)(h:Ok C σ a w S F V){t:TypeId}{dst:Option Tmp}{p q r:bX E}{vp vq:Value}(hp:b9 S w σ.slot V p vp)(hq:b9 S w σ.slot V q vq)
  (hm:(xq (E:=E) fn (E.ty t) dst p q).run Fa σ=some (r,σ1)):Res C a σ1 r (Instr.makeSlice t vp vq) w:=by
 unfold xq at hm
 split at hm
 ·rename_i e d k n k' c ht hi hi'
  obtain⟨hn,hm2⟩:=M.run_chk hm
  clear hm
  obtain⟨rfl,_⟩:=iL hp hi
  obtain⟨rfl,_⟩:=iL hq hi'
  obtain⟨inf,z,hty⟩:=TyOK.of (hT t _ ht)
  obtain⟨et,h2,h3⟩:=hty.desc
  obtain⟨inf',z',hty'⟩:=TyOK.of (hT et _ h3)
  obtain⟨n0,rfl⟩:=Int.eq_ofNat_of_zero_le hn.1
  obtain⟨c0,rfl⟩:=Int.eq_ofNat_of_zero_le (Int.le_trans hn.1 hn.2.1)
  have hnc:n0≤c0:=by omega
  have hroom:c0≤4294967296:=by have:=hn.2.2;unfold room at this;omega
  have hzsz:z'.cells.size=e.sz E.G.sz:=by rw[← aJ];exact(hty'.zrep S w true).len
  have hzpos:0<z'.cells.size:=by rw[hzsz];exact hty'.pos
  obtain⟨g,σ',h4,h5⟩:=az hm2
  obtain⟨rfl,rfl⟩:=aB (F:=Fa) h5
  let cells:Array Value:=if c0*e.sz E.G.sz=0 then #[] else(Array.range (c0*e.sz E.G.sz)).map (fun i=>z'.cells[i%z'.cells.size]!)
  have hcells:cells.toList=(List.replicate c0 z'.cells.toList).flatten:=by
   show(if _ then _ else _:Array Value).toList=_
   split
   ·rename_i h0
    have:c0=0:=by
     rcases Nat.mul_eq_zero.1 h0 with h | h
     ·exact h
     ·have:=hty'.pos;omega
    rw[this];rfl
   ·rw[← xP z'.cells hzpos,hzsz];simp
  have hrun:(Instr.makeSlice t (.int k (n0:Int)) (.int k' (c0:Int))).run C.P w = .ok (.slice (some ⟨w.heap.size,0,none⟩) n0 c0) (w.alloc (.cells cells et)):=by
   have hby:=hty'.bytes
   have hmul:c0*inf'.bytes≤4294967296*16384:=Nat.mul_le_mul hroom hby
   have hmul':(inf'.bytes:Int)*(c0:Int)≤281474976710656:=by
    have:inf'.bytes*c0≤281474976710656:=by rw[Nat.mul_comm];omega
    rw[← Int.natCast_mul];omega
   have w1:=LO n0 (by omega)
   have w2:=LO c0 (by omega)
   have x1:¬ ((c0:Int)<0):=by omega
   have x2:¬ ((n0:Int)<0):=by omega
   have x3:¬ ((c0:Int)<(n0:Int)):=by omega
   have x4:¬ ((281474976710656:Int)<(inf'.bytes:Int)*(c0:Int)):=by omega
   have x5:¬ (140737488355328<c0*inf'.bytes):=by omega
   have y4:¬ ((inf'.bytes:Int)*(c0:Int)>2 ^ 48):=x4
   have y5:¬ (c0*inf'.bytes>roomBytes):=x5
   simp only[Instr.makeSlice,Sem.run_bind,run_underlying h2,aS,asInt,asIntOf,Sem.run_pure,hty'.run_info,w1,w2,y4,askRoom,Int.toNat_natCast,y5,newRow]
   simp only[gt_iff_lt,x1,x2,x3,decide_false,Bool.or_self,Bool.false_eq_true,if_false,Sem.run_pure,Sem.run_bind,aS,hty'.run_sizeOf]
   by_cases h0:c0*e.sz E.G.sz=0
   ·have:cells = #[]:=bw h0
    have e0:∀ f:Nat→Value,Array.map f (Array.range 0) = #[]:=fun f=>by rw[Array.range_zero'];exact Array.map_empty
    rw[this]
    simp[h0,e0]
   ·have:cells=(Array.range (c0*e.sz E.G.sz)).map (fun i=>z'.cells[i%z'.cells.size]!):=bz h0
    rw[this]
    simp[h0,hty'.run_zero]
  have hL:=xp h Loose.nil (w.alloc (.cells cells et)) (by simp)
  have h':=h.grow' (Grows.alloc w (.cells cells et))
  have hlen:(List.replicate n0 (cP E.G.zero e):List (J E.G.T e)).length=n0:=bf ..
  have hrep:RepE (G:=E.G) S (w.alloc (.cells cells et)) true (.sl e) (List.replicate n0 (cP E.G.zero e)) [.slice (some ⟨w.heap.size,0,none⟩) n0 c0] [w.heap.size]:=by
   refine repE_sl.2 (.inr ⟨w.heap.size,0,c0,cells,et,(0,0),[],by rw[hlen],by rw[hlen];exact hnc,heap_alloc_new ..,?_,?_⟩)
   ·rw[hlen,aQ,hcells]
    have:(List.replicate c0 z'.cells.toList).flatten=(List.replicate n0 z'.cells.toList).flatten++(List.replicate (c0-n0) z'.cells.toList).flatten:=by
     rw[← List.flatten_append,List.replicate_append_replicate]
     congr 2;omega
    rw[this,List.take_left' (by simp[hzsz])]
    exact Fi (fun o=>hty'.zrep S _ o) n0
   ·rw[bw rfl]
    refine⟨rfl,⟨.inl rfl,fun _=>rfl⟩,?_,by omega,rfl⟩
    rw[← aJ,hcells];simp[hzsz]
  obtain⟨F',V',m1,m2,m3⟩:=qf hnp h' (L:=[]) (Fd:=[w.heap.size]) hL (d:=⟨.leaf true (.sl e),List.replicate n0 (cP E.G.zero e)⟩) (v:=.slice (some ⟨w.heap.size,0,none⟩) n0 c0) hrep (fun cs h=>(by cases h)) (by
   have e0:((n0:Nat):Int).toNat=n0:=Int.toNat_natCast n0
   rw[← e0];exact h4)
  exact⟨_,_,hrun,S,F',V',m1,m2⟩
 ·exact aA (F:=Fa) hm
end
end
section
section
variable {G:Gam} {C:Ctx} {σ:St G} {a:Act} {w:World} {S:Nat→Prop} {F:Nat→List Nat} {V:Nat→Value} {L:List Nat}
theorem Ok.world(h:Ok C σ a w S F V){w':World}(hS0:∀ b,S b→w'.heap[b]? = w.heap[b]?)(hF:∀ s,∀ b∈F s,w'.heap[b]? = w.heap[b]?)(hsz:w.heap.size≤w'.heap.size)(hkeep:∀ b,b<C.w0.heap.size→b∉C.F0→w'.heap[b]? = w.heap[b]?)
  (hos:w'.os=w.os) (htape:w'.tape=w.tape) (hout:w'.output=w.output):Ok C σ a w' S F V:=by
 have hS:∀ b,S b→S b∧w'.heap[b]? = w.heap[b]?:=fun b hb=>⟨hb,hS0 b hb⟩
 have ht:∀ s,kg w w' (σ.slot s) (σ.slot s) (V s) (V s) (F s):=fun s=>.inl ⟨rfl,rfl,hF s⟩
 refine { h with pins:=fun t=>iA h.slots hS ht _ _ (h.pins t),slots:=fun s=>qF h.slots hS ht rfl rfl (hF s),bnd:=fun s b hb=>Nat.lt_of_lt_of_le (h.bnd s b hb) hsz,bndS:=fun b hb=>Nat.lt_of_lt_of_le (h.bndS b hb) hsz,keep:=fun b h1 h2=>(hkeep b h1 h2).trans (h.keep b h1 h2),grow:=Nat.le_trans h.grow hsz,os:=hos.trans h.os,tape:=htape.trans h.tape,output:=hout.trans h.output,orig:=fun s i h1 h2 h3 cs ad h4=>?_ }
 refine h.orig s i h1 h2 h3 cs ad ?_
 unfold Root at h4 ⊢
 rw[bw h2]at h4 ⊢
 obtain⟨b,c,E',k1,k2,k3,k4⟩:=h4
 refine⟨b,c,E',k1,?_,k3,k4⟩
 have hs:=h.slots s
 unfold cO at hs
 cases hc:(σ.slot s).cont with
 | dead=>exact absurd hc h3
 | data d =>
  rw[hc]at hs;simp only at hs;rw[bw h2]at hs
  obtain⟨b',c',E'',F'',q1,q2,q3,q4⟩:=hs
  rw[k1]at q1;cases q1
  rw[← hF s b (by rw[q3];exact aH ..)];exact k2
 | word p =>
  rw[hc]at hs;simp only at hs
  obtain⟨q0,b',c',E'',cv,q1,q2,q3,q4⟩:=hs
  rw[k1]at q1;cases q1
  rw[← hF s b (by rw[q3];exact aH ..)];exact k2
 | frz d=>rw[hc]at hs;exact absurd (h2.symm.trans hs.1) (by decide)
theorem Ok.poke(h:Ok C σ a w S F V){b:Nat}(hL:Loose C w S F L)(hb:b∈L){w':World}(ho:∀ k,k≠b→w'.heap[k]? = w.heap[k]?)(hsz:w'.heap.size=w.heap.size)(hos:w'.os=w.os)(htape:w'.tape=w.tape)(hout:w'.output=w.output) :
  Ok C σ a w' S F V∧Loose C w' S F L:=by
 refine⟨h.world (fun k hk=>ho k fun e=>hL.notS b hb (e ▸ hk)) (fun s k hk=>ho k fun e=>hL.apart s k hk (e ▸ hb)) (Nat.le_of_eq hsz.symm) (fun k hk hk'=>ho k fun e=>?_) hos htape hout,{ hL with bnd:=fun k hk=>by rw[hsz];exact hL.bnd k hk }⟩
 subst e
 rcases hL.fromF k hb with h1 | h1
 ·exact hk' h1
 ·exact absurd hk (Nat.not_lt.2 h1)
end
section
variable {P:Program} (w:World)
theorem Vj(t tx ty e:TypeId)(i:TypeInfo)(ht:P.underlying t=some (.slice e))(hi:P.info? e=some i)(g sLen sCap:Nat)(cur:Array Value)(T:TypeId)(fz:Nat×Nat)(hg:w.heap[g]? = some (.cells cur T fz))(hfz:jo fz cur.size)(x:Value)(n:Nat)(news:List Value)
  (hs:Src P i.size tx x n news w) (hroom:sLen+n≤sCap) (hfit:sLen*i.size+news.length≤cur.size) :
  (Builtin.append_ #[t,tx] ty #[.slice (some ⟨g,0,none⟩) sLen sCap,x]).run P w =
   .ok (.slice (some ⟨g,0,none⟩) (sLen+n) sCap) (w.setRow g (cur.toList.take (sLen*i.size)++news++cur.toList.drop (sLen*i.size+news.length)).toArray):=by
 have hst:=qk P g (sLen*i.size) T fz news 0 cur w hg hfz (by simpa using hfit) hs.one
 simp only[Nat.add_zero]at hst
 rcases hs.kind with ⟨e',hk⟩ | hk <;> simp[Builtin.append_,run_underlying ht,run_underlying hk,sizeOf,typeInfo,hi,hs.len,hroom,hs.cells,Addr.add_lit,hst]
theorem MK{ats:Array TypeId}{t tx ty:TypeId}{args:Array Value}(h0:ats[0]? = some t)(h1:ats[1]? = some tx):Builtin.append_ ats ty args=Builtin.append_ #[t,tx] ty args:=by
 unfold Builtin.append_
 rw[h0,h1]
 rfl
end
section
variable {E:Env} {Fa:cr E.Z} {C:Ctx} {σ σ1:St E.G} {a:Act} {w:World} {S:Nat→Prop} {F:Nat→List Nat} {V:Nat→Value} {L:List Nat} {fn:Fn}
theorem rt{G:Gam}{o:Bool}{d:Nat}{e:FT}{b:BT}{x:B G.T b}{y:J G.T (.sl e)}{v:Value}(h:coJ G o d (.sl e) b x=some y)(hs:Shaped b v):∀ cs,v ≠ .agg cs:=by
 cases d with
 | zero=>simp[coJ]at h
 | succ d=>cases b with
  | leaf o' t' =>
   obtain⟨_,he,_⟩:=vF h
   subst he
   exact hs
  | sp e'=>exact hs
  | _=>simp only[coJ]at h;exact b7 h
theorem Ys(hT:∀ t ft,E.ty t=some ft→dh E.G C.P E.ty t ft=true){tx:TypeId}(h:nH (E.ty tx)=true):(∃ e',C.P.underlying tx=some (.slice e'))∨C.P.underlying tx=some .string:=by
 cases ht:E.ty tx with
 | none=>rw[ht]at h;cases h
 | some ft=>rw[ht]at h;cases ft with
  | sl e =>
   obtain⟨inf,z,hty⟩:=TyOK.of (hT tx _ ht)
   obtain⟨et,h1,_⟩:=hty.desc
   exact .inl ⟨et,h1⟩
  | str =>
   obtain⟨inf,z,hty⟩:=TyOK.of (hT tx _ ht)
   exact .inr hty.desc
  | _=>cases h
theorem BL{P:Program}{sz:Nat}{tx:TypeId}(hk:(∃ e',P.underlying tx=some (.slice e'))∨P.underlying tx=some .string){b off n cap:Nat}{c:Array Value}{T:TypeId}{fz:Nat×Nat}(hb:w.heap[b]? = some (.cells c T fz)){news:List Value}(hn:(c.toList.drop off).take (n*sz)=news)(hl:news.length=n*sz)
  (h1:∀ u∈news,u.oneCell'=true):Src P sz tx (.slice (some ⟨b,off,none⟩) n cap) n news w:=by
 have hc:∀ (w':World),w'.heap=w.heap→∀ j u,news[j]? = some u→w'.cell? ((⟨b,off,none⟩:Addr).add j)=some u:=by
  intro w' hw j u hu
  rw[gH]
  simp only[World.cell?,hw,hb]
  have hj:j<news.length:=(List.getElem?_eq_some_iff.1 hu).1
  rw[← hn,List.getElem?_take,bw (by omega),List.getElem?_drop]at hu
  simpa using hu
 exact⟨hk,fun _=>rfl,run_firstCells_some w sz n _ n cap news hl (hc w rfl),run_firstCells_some w.drew sz n _ n cap news hl (hc w.drew rfl),hl,h1⟩
theorem sP{G:Gam}{o:Bool}{e:FT}:∀ (l:List (J G.T e)) (cs:List Value) (Fx:List Nat),RepL (RepE (G:=G) S w o e) l cs Fx→∀ u∈cs,u.oneCell'=true
 | [],cs,Fx,h,u,hu=>by rw[h.1]at hu;cases hu
 | x::l,cs,Fx,⟨c1,c2,F1,F2,h1,h2,⟨d,h3⟩,h4⟩,u,hu=>by
  rw[h1]at hu
  rcases aE.1 hu with hu | hu
  ·exact Rep.one d _ _ _ _ _ h3 u hu
  ·exact sP l c2 F2 h4 u hu
theorem qg{G:Gam}{S':Nat→Prop}{w':World}{o o':Bool}{e:FT}(hf:e.flat G.flat=true):∀ (l:List (J G.T e)) (cs:List Value) (Fx:List Nat),RepL (RepE (G:=G) S w o e) l cs Fx→RepL (RepE S' w' o' e) l cs []
 | [],cs,Fx,h=>⟨h.1,rfl⟩
 | x::l,cs,Fx,⟨c1,c2,F1,F2,h1,h2,h3,h4⟩=>⟨c1,c2,[],[],h1,rfl,(h3.flat hf o' S' w').2,qg hf l c2 F2 h4⟩
theorem xU{G:Gam}{e:FT}:∀ (l:List (J G.T e)) (cs:List Value) (Fx:List Nat),RepL (RepE (G:=G) S w false e) l cs Fx→Fx=[]
 | [],cs,Fx,h=>h.2
 | x::l,cs,Fx,⟨c1,c2,F1,F2,h1,h2,h3,h4⟩=>by rw[h2,h3.shared,xU l c2 F2 h4];rfl
def jq{G:Gam}(S:Nat→Prop)(w:World)(o:Bool)(e:FT)(l:List (J G.T e))(cs:List Value)(F:List Nat):Prop :=
 (cs=[.slice none 0 0]∧l=[]∧F=[]) ∨
  ∃ b cap c E fz F',cs=[.slice (some ⟨b,0,none⟩) l.length cap]∧l.length≤cap∧w.heap[b]? = some (.cells c E fz) ∧
   RepL (RepE S w o e) l (c.toList.take (l.length*e.sz G.sz)) F'∧oR e fz c.size∧c.size=cap*e.sz G.sz∧cap≤9223372036854775807∧F=b::F'
theorem repO_sl{G:Gam}{e:FT}{l:List (J G.T e)}{cs:List Value}{Fx:List Nat}:RepE (G:=G) S w true (.sl e) l cs Fx↔jq S w true e l cs Fx:=by
 refine repE_slT.trans ⟨fun h=>?_,fun h=>?_⟩
 ·rcases h with h | ⟨b,off,cap,c,E0,fz,F',e1,e2,e3,e4,e5⟩
  ·exact .inl h
  ·rw[bw rfl]at e5
   obtain⟨rfl,q1,q2,q3,q4⟩:=e5
   rw[aQ]at e4
   exact .inr ⟨b,cap,c,E0,fz,F',e1,e2,e3,e4,q1,q2,q3,q4⟩
 ·rcases h with h | ⟨b,cap,c,E0,fz,F',e1,e2,e3,e4,q1,q2,q3,q4⟩
  ·exact .inl h
  ·exact .inr ⟨b,0,cap,c,E0,fz,F',e1,e2,e3,by rw[aQ];exact e4,by rw[bw rfl];exact⟨rfl,q1,q2,q3,q4⟩⟩
theorem repO_sp{G:Gam}{e:FT}{l:List (J G.T e)}{cs:List Value}{Fx:List Nat}:RepB (G:=G) S w (.sp e) l cs Fx↔jq S w false e l cs Fx:=by
 constructor
 ·rintro (h | ⟨b,cap,c,E0,fz,e1,e2,e3,e4,q1,q2,q3,q4⟩)
  ·exact .inl h
  ·exact .inr ⟨b,cap,c,E0,fz,[],e1,e2,e3,e4,q1,q2,q3,q4⟩
 ·rintro (h | ⟨b,cap,c,E0,fz,F',e1,e2,e3,e4,q1,q2,q3,q4⟩)
  ·exact .inl h
  ·obtain rfl:=xU _ _ _ e4
   exact .inr ⟨b,cap,c,E0,fz,e1,e2,e3,e4,q1,q2,q3,q4⟩
theorem repO_spD{G:Gam}{o:Bool}{e:FT}{l:List (J G.T e)}{cs:List Value}{Fx:List Nat}:RepB (G:=G) S w (spD o e l).b (spD o e l).x cs Fx↔jq S w o e l cs Fx:=by
 cases o with
 | true=>exact repO_sl
 | false=>exact repO_sp
theorem Lj{G:Gam}{o:Bool}{e:FT}{l:List (J G.T e)}{v:Value}(h:∀ cs,v ≠ .agg cs):Shaped (spD (T:=G.T) o e l).b v:=by cases o <;> exact h
theorem NA{T:Nat→Type}{e:FT}{d:DV T}{l:List (J T e)}(h:ru e d=some l):d=⟨.sp e,l⟩:=by
 obtain⟨b,x⟩:=d
 cases b with
 | sp e' =>
  simp only[ru]at h
  split at h
  ·rename_i k hk
   subst k
   obtain rfl:=aR h
   rfl
  ·cases h
 | _=>exact b7 h
theorem TI{e:FT}{v:DV E.G.T}{o:Bool}{l:List (J E.G.T e)}(h:xm (E:=E) e v=some (o,l)){u:Value}(hs:Shaped v.b u){Fx:List Nat}(hr:RepB S w v.b v.x u.cells.toList Fx):(∀ cs,u ≠ .agg cs)∧jq S w o e l [u] Fx:=by
 unfold xm at h
 split at h
 ·rename_i l0 h0
  obtain⟨rfl,rfl⟩:false=o∧l0=l:=by have:=aR h;exact⟨congrArg Prod.fst this,congrArg Prod.snd this⟩
  obtain rfl:=NA h0
  have hag:∀ cs,u ≠ .agg cs:=hs
  rw[dP hag]at hr
  exact⟨hag,repO_sp.1 hr⟩
 ·split at h
  ·rename_i l0 h0
   obtain⟨rfl,rfl⟩:true=o∧l0=l:=by have:=aR h;exact⟨congrArg Prod.fst this,congrArg Prod.snd this⟩
   have hag:=rt h0 hs
   have hr2:=gt (S':=S) h0 hr (fun b hb=>hb) (fun h=>by cases h)
   rw[dP hag]at hr2
   exact⟨hag,repO_sl.1 hr2⟩
  ·exact b7 h
theorem Lm(hT:∀ t ft,E.ty t=some ft→dh E.G C.P E.ty t ft=true)(h:Ok C σ a w S F V)(hL:Loose C w S F L){tx:TypeId}(hseq:nH (E.ty tx)=true){o:Bool}{e:FT}{xo:Operand}{l2:List (J E.G.T e)}(hm:(uw (E:=E) o e xo).run Fa σ=some (l2,σ1)) :
  ∃ F1,Ok C σ1 a w S F1 V∧∃ news Fd,RepL (RepE (G:=E.G) S w o e) l2 news Fd∧Loose C w S F1 (Fd++L)∧Src C.P (e.sz E.G.sz) tx (a.eval xo) l2.length news w:=by
 have hk:=Ys hT hseq
 unfold uw at hm
 obtain⟨x,σ2,h1,h2⟩:=az hm
 obtain⟨rfl,hx⟩:=cY h h1
 split at h2
 ·obtain⟨rfl,rfl⟩:=aB (F:=Fa) h2
  have hv:a.eval xo = .slice none 0 0:=hx
  rw[hv]
  exact⟨F,h,[],[],⟨rfl,rfl⟩,hL,hk,fun _=>rfl,run_firstCells_none w _ 0 0 0,run_firstCells_none w.drew _ 0 0 0,by simp,fun _ h=>by cases h⟩
 ·rename_i o2 b
  obtain⟨rfl,rfl⟩:=aB (F:=Fa) h2
  obtain⟨s,hs,hb,hsz⟩:=nO hx
  subst hb
  rw[hs]
  refine⟨F,h,byteCells s,[],?_,hL,?_⟩
  ·have key:∀ (us:List UInt8),RepL (RepE (G:=E.G) S w o (.int .u8)) (us.map fun b=>(b.toNat:Int)) (us.map fun b=>Value.int .u8 b.toNat) []:=by
    intro us
    induction us with
    | nil=>exact⟨rfl,rfl⟩
    | cons u us ih =>
     refine⟨[.int .u8 u.toNat],_,[],[],rfl,rfl,repE_int.2 ⟨rfl,?_,rfl⟩,ih⟩
     show IntKind.u8.wrap (u.toNat:Int)=(u.toNat:Int)
     rw[IntKind.wrap_u8]
     have:=u.toNat_lt
     omega
   exact key s.data.toList
  ·have e1:List.length (α:=J E.G.T (.int .u8)) (ct s)=s.size:=fR s
   rw[e1]
   exact⟨hk,fun _=>rfl,firstCells_string s w,firstCells_string s w.drew,by rw[byteCells_length];show _=s.size*1;omega,fun u hu=>by obtain⟨_,_,rfl⟩:=List.mem_map.1 hu;rfl⟩
 ·cases hf:e.flat E.G.flat with
  | true =>
   rw[hf]at h2
   simp only[cond_true]at h2
   obtain⟨d,σ3,h3,h4⟩:=az h2
   obtain⟨h5,rfl⟩:=M.run_lift h4
   obtain⟨rfl,hsh,Fd,hr⟩:=xQ h hx h3
   have hag:∀ cs,a.eval xo ≠ .agg cs:=rt h5 hsh
   have hr2:=gt (S':=fun b=>(S b∨∃ s,x.slotOf=some s∧b∈F s)∨b∈Fd) h5 hr (fun b hb=>.inl hb) (fun _ b hb=>.inr hb)
   rw[dP hag]at hr2
   rcases repE_sl.1 hr2 with ⟨e1,e2,_⟩ | ⟨b,off,cap,c,E0,fz,F',e1,e2,e3,e4,e5⟩
   ·obtain⟨base,cap,e1,_⟩:=e1
    have hv:a.eval xo = .slice base 0 cap:=by simpa using e1
    subst e2
    rw[hv]
    have hfc:∀ w':World,(Builtin.firstCells (e.sz E.G.sz) 0 (.slice base 0 cap)).run C.P w' = .ok #[] w':=by
     intro w'
     cases base with
     | none=>exact run_firstCells_none w' _ 0 0 cap
     | some b=>exact run_firstCells_some w' _ 0 b 0 cap [] (by simp) (fun j u h=>by simp at h)
    exact⟨F,h,[],[],⟨rfl,rfl⟩,hL,hk,fun _=>rfl,hfc w,hfc w.drew,by simp,fun _ h=>by cases h⟩
   ·have hv:a.eval xo = .slice (some ⟨b,off,none⟩) l2.length cap:=by simpa using e1
    rw[hv]
    exact⟨F,h,_,[],qg hf _ _ _ e4,hL,BL hk e3 rfl (RepL.len (n:=e.sz E.G.sz) _ _ _ (fun x _ c G h=>h.len) e4) (sP _ _ _ e4)⟩
  | false =>
   rw[hf]at h2
   simp only[cond_false]at h2
   obtain⟨d,σ3,h3,h4⟩:=az h2
   obtain⟨hcp,h4⟩:=aC h4
   obtain⟨h5,rfl⟩:=M.run_lift h4
   obtain⟨F1,g1,g2,g3,Fd,g4,g5⟩:=ux h hL hx h3
   have hag:∀ cs,a.eval xo ≠ .agg cs:=rt h5 g3
   cases o with
   | true =>
   have hr2:=gt (S':=S) h5 g4 (fun b hb=>hb) (fun h=>by cases h)
   rw[dP hag]at hr2
   rcases repE_slT.1 hr2 with ⟨e1,e2,e3⟩ | ⟨b,off,cap,c,E0,fz,F',e1,e2,e3,e4,e5⟩
   ·have hv:a.eval xo = .slice none 0 0:=by simpa using e1
    subst e2
    rw[hv]
    exact⟨F1,g1,[],[],⟨rfl,rfl⟩,g5.sub (List.sublist_append_right ..),hk,fun _=>rfl,run_firstCells_none w _ 0 0 0,run_firstCells_none w.drew _ 0 0 0,by simp,fun _ h=>by cases h⟩
   ·have hv:a.eval xo = .slice (some ⟨b,off,none⟩) l2.length cap:=by simpa using e1
    rw[bw rfl]at e5
    obtain⟨rfl,hfz,q3,q4,q5⟩:=e5
    rw[hv]
    refine⟨F1,g1,_,F',e4,g5.sub ?_,BL hk e3 rfl (RepL.len (n:=e.sz E.G.sz) _ _ _ (fun x _ c G h=>h.len) e4) (sP _ _ _ e4)⟩
    have:Fd=b::F':=q5
    rw[this]
    exact(List.sublist_cons_self ..).append_right L
   | false =>
   obtain rfl:=RepB.cp (by simpa using hcp) g4
   have hr2:=gt (S':=S) h5 g4 (fun b hb=>hb) (fun _ b hb=>by cases hb)
   rw[dP hag]at hr2
   rcases repE_sl.1 hr2 with ⟨e1,e2,_⟩ | ⟨b,off,cap,c,E0,fz,F',e1,e2,e3,e4,e5⟩
   ·obtain⟨base,cap,e1,_⟩:=e1
    have hv:a.eval xo = .slice base 0 cap:=by simpa using e1
    subst e2
    rw[hv]
    have hfc:∀ w':World,(Builtin.firstCells (e.sz E.G.sz) 0 (.slice base 0 cap)).run C.P w' = .ok #[] w':=by
     intro w'
     cases base with
     | none=>exact run_firstCells_none w' _ 0 0 cap
     | some b=>exact run_firstCells_some w' _ 0 b 0 cap [] (by simp) (fun j u h=>by simp at h)
    exact⟨F1,g1,[],[],⟨rfl,rfl⟩,g5,hk,fun _=>rfl,hfc w,hfc w.drew,by simp,fun _ h=>by cases h⟩
   ·have hv:a.eval xo = .slice (some ⟨b,off,none⟩) l2.length cap:=by simpa using e1
    rw[hv]
    obtain rfl:=xU _ _ _ e4
    exact⟨F1,g1,_,[],e4,g5,BL hk e3 rfl (RepL.len (n:=e.sz E.G.sz) _ _ _ (fun x _ c G h=>h.len) e4) (sP _ _ _ e4)⟩
theorem Jq{G:Gam}{o:Bool}{e:FT}{l:List (J G.T e)}{cs:List Value}{Fx:List Nat}{S':Nat→Prop}(h:jq (G:=G) S w o e l cs Fx)(hS:∀ b,S b→S' b)(hF:∀ b∈Fx,S' b):RepE (G:=G) S' w false (.sl e) l cs []:=by
 cases o with
 | true=>exact(repO_sl.2 h).freeze hS hF
 | false=>exact xV (repO_sp.2 h) hS hF
theorem MJ(hnp:fn.np=C.np)(hT:∀ t ft,E.ty t=some ft→dh E.G C.P E.ty t ft=true)(h:Ok C σ a w S F V){t tx ty:TypeId}{ats:Array TypeId}(h0:ats[0]? = some t)(h1:ats[1]? = some tx){dst:Option Tmp}{p r:bX E}{xo:Operand}{vp:Value}
  (hp:b9 S w σ.slot V p vp) (hm:(FR (E:=E) fn (E.ty t) (E.ty tx) dst p xo).run Fa σ=some (r,σ1)):Res C a σ1 r (Builtin.append_ ats ty #[vp,a.eval xo]) w:=by
 rw[MK h0 h1]
 obtain⟨hseq,hm⟩:=aC hm
 split at hm
 ·rename_i e d ht hm0
  obtain⟨inf,z,hty⟩:=TyOK.of (hT t _ ht)
  obtain⟨et,hu,he⟩:=hty.desc
  obtain⟨inf',z',hty'⟩:=TyOK.of (hT et _ he)
  obtain⟨dv,σ2,h2,h3⟩:=az hm
  obtain⟨F1,g1,g2,g3,Fd,g4,g5⟩:=jk h (L:=[]) Loose.nil hp h2
  split at h3
  ·rename_i o l hco
   obtain⟨l2,σ3,h4,h5⟩:=az h3
   obtain⟨hag,hr3⟩:=TI hco g3 g4
   rw[aL]at g5
   obtain⟨F2,k1,news,Fn,k2,k3,k4⟩:=Lm hT g1 g5 hseq h4
   obtain⟨hroom,h6⟩:=M.run_chk h5
   obtain⟨l',hl'⟩:∃ l':List (J E.G.T e),l'=l:=⟨l,rfl⟩
   subst hl'
   have hroom':l'.length+l2.length≤4294967296:=hroom
   have fin:∀ {u:Value} {w':World} {Fx Lx:List Nat},(∀ cs,u ≠ .agg cs)→Ok C σ3 a w' S F2 V→Loose C w' S F2 (Fx++Lx)→jq (G:=E.G) S w' o e (l'++l2) [u] Fx→(Builtin.append_ #[t,tx] ty #[vp,a.eval xo]).run C.P w = .ok u w'→Res C a σ1 r (Builtin.append_ #[t,tx] ty #[vp,a.eval xo]) w:=by
    intro u w' Fx Lx hu hok hLo hre hrun
    cases hann:Nat.beq (fn.ann d) 6 with
    | true =>
     rw[hann]at h6
     obtain⟨rfl,rfl⟩:=aB (F:=Fa) h6
     obtain⟨q1,q2⟩:=hok.share hLo
     refine⟨_,_,hrun,_,F2,V,q1,?_,hu,rfl⟩
     show RepE _ _ false (.sl e) (l'++l2) u.cells.toList []
     rw[dP hu]
     exact Jq hre (fun _ h=>.inl h) (fun b hb=>.inr hb)
    | false =>
     rw[hann]at h6
     obtain⟨g,σ4,h7,h8⟩:=az h6
     obtain⟨rfl,rfl⟩:=aB (F:=Fa) h8
     obtain⟨F',V',m1,m2,m3⟩:=qf hnp hok (L:=Lx) (Fd:=Fx) hLo (d:=spD o e (l'++l2:List (J E.G.T e))) (v:=u) (by rw[dP hu];exact repO_spD.2 hre) (Lj hu) h7
     exact⟨_,_,hrun,S,F',V',m1,m2⟩
   have hzsz:z'.cells.size=e.sz E.G.sz:=by rw[← aJ];exact(hty'.zrep S w true).len
   have hzpos:0<z'.cells.size:=by rw[hzsz];exact hty'.pos
   have hlen:(l'++l2:List (J E.G.T e)).length=l'.length+l2.length:=List.length_append ..
   have hnl:news.length=l2.length*e.sz E.G.sz:=k4.newsLen
   have k4':Src C.P inf'.size tx (a.eval xo) l2.length news w:=by rw[hty'.size];exact k4
   have grow:∀ (base:Option Addr) (cap:Nat) (olds:List Value) (Fo:List Nat),vp = .slice base l'.length cap→cap<l'.length+l2.length→RepL (RepE (G:=E.G) S w o e) l' olds Fo→(Fo++Fn).Nodup→Loose C w S F2 (Fo++Fn) →
     (∀ w':World,w'.heap=w.heap→(Builtin.firstCells inf'.size l'.length (.slice base l'.length cap)).run C.P w' = .ok olds.toArray w') →
     Res C a σ1 r (Builtin.append_ #[t,tx] ty #[vp,a.eval xo]) w:=by
    intro base cap olds Fo hvp hcap hol hnd hLo hfc
    have hmul:(l'.length+l2.length)*inf'.bytes≤4294967296*16384:=Nat.mul_le_mul hroom' hty'.bytes
    have hrun:=run_append_grow_src (P:=C.P) w t tx ty et inf' z' hu hty'.info hty'.zero base l'.length cap olds (hfc w.drew rfl) (a.eval xo) l2.length news k4' hcap (by omega) (growslice_fits hcap (by omega))
    rw[← hvp]at hrun
    let cap':=grownCap w (l'.length+l2.length) cap et
    have hcap':l'.length+l2.length≤cap':=grownCap_ge ..
    have hmax:cap'≤maxLen:=grownCap_le_maxLen w _ cap et (by unfold maxLen;omega)
    let cells:Array Value:=(olds++news).toArray++Builtin.zeroCells z'.cells (cap'-(l'.length+l2.length))
    have hG:Grows w (w.drew.alloc (.cells cells et)):=(Grows.drew w).trans (Grows.alloc w.drew _)
    have hnew:(w.drew.alloc (.cells cells et)).heap[w.heap.size]? = some (.cells cells et (0,0)):=heap_alloc_new w.drew _
    have hLn:=xp k1 hLo (w.drew.alloc (.cells cells et)) (by simp)
    have hok:=k1.grow' hG
    have hcl:cells.toList=(olds++news)++(List.replicate (cap'-(l'.length+l2.length)) z'.cells.toList).flatten:=by
     show((olds++news).toArray++Builtin.zeroCells z'.cells _).toList=_
     rw[Array.toList_append,Mf _ hzpos]
    have hol':olds.length=l'.length*e.sz E.G.sz:=RepL.len (n:=e.sz E.G.sz) _ _ _ (fun x _ c G h=>h.len) hol
    have hfr:∀ (l:List (J E.G.T e)) (cs:List Value) (Fx:List Nat),RepL (RepE (G:=E.G) S w o e) l cs Fx→(∀ b∈Fx,b<w.heap.size)→RepL (RepE (G:=E.G) S (w.drew.alloc (.cells cells et)) o e) l cs Fx:=by
     intro l cs Fx hl hbd
     exact RepL.mono _ _ _ (fun x _ c G hG' hr=>hr.frame (fun b hb=>⟨hb,hG.old b (k1.bndS b hb)⟩) (fun b hb=>hG.old b (hbd b (hG' b hb)))) hl
    have hrep:jq (G:=E.G) S (w.drew.alloc (.cells cells et)) o e (l'++l2) [.slice (some ⟨w.heap.size,0,none⟩) (l'.length+l2.length) cap'] (w.heap.size::(Fo++Fn)):=by
     refine .inr ⟨w.heap.size,cap',cells,et,(0,0),Fo++Fn,by rw[hlen],by rw[hlen];exact hcap',hnew,?_,?_⟩
     ·rw[hlen,hcl,List.take_left' (by rw[List.length_append,hol',hnl,Nat.add_mul])]
      exact RepL.app _ _ _ _ _ _ (hfr _ _ _ hol fun b hb=>hLo.bnd b (ax _ hb)) (hfr _ _ _ k2 fun b hb=>hLo.bnd b (ay _ hb))
     ·refine⟨⟨.inl rfl,fun _=>rfl⟩,?_,by unfold maxLen at hmax;omega,rfl⟩
      rw[← aJ,hcl]
      simp only[List.length_append,hol',hnl,List.length_flatten,List.map_replicate,List.sum_replicate_nat,aJ,hzsz]
      rw[← Nat.add_mul,← Nat.add_mul]
      congr 1;omega
    exact fin (Lx:=[]) (fun cs h=>(by cases h)) hok (by rw[aL];exact hLn) hrep hrun
   rcases hr3 with ⟨e1,e2,e3⟩ | ⟨b,cap,c,E0,fz,F0,e1,e2,e3,e4,hfz,q3,q4,rfl⟩
   ·obtain rfl:vp = .slice none 0 0:=by simpa using e1
    subst e2
    subst e3
    by_cases hn:l2.length=0
    ·have hl2:l2=[]:=List.eq_nil_of_length_eq_zero hn
     subst hl2
     have hnn:news=[]:=List.eq_nil_of_length_eq_zero (by rw[hnl];simp)
     subst hnn
     have hrun:=run_append_nothing (P:=C.P) w t tx ty et inf' hu hty'.info none 0 0 (aK _) (a.eval xo) k4'
     exact fin (Fx:=[]) (Lx:=Fn++[]) (fun cs h=>(by cases h)) k1 k3 (.inl ⟨rfl,rfl,rfl⟩) hrun
    ·refine grow none 0 [] [] rfl (by simp;omega) ⟨rfl,rfl⟩ ?_ ?_ (fun w' _=>run_firstCells_none w' _ 0 0 0)
     ·have:=k3.nd;rw[aL]at this;exact this
     ·have:=k3;rw[aL]at this;exact this
   ·obtain rfl:vp = .slice (some ⟨b,0,none⟩) l'.length cap:=by simpa using e1
    have hcl:l'.length*e.sz E.G.sz≤c.toList.length:=by rw[show c.toList.length=c.size from aJ,q3];exact aM _ e2
    by_cases hr:l'.length+l2.length≤cap
    ·have hfit:l'.length*inf'.size+news.length≤c.size:=by
      rw[hty'.size,hnl,q3,← Nat.add_mul];exact aM _ hr
     have hrun:=Vj (P:=C.P) w t tx ty et inf' hu hty'.info b l'.length cap c E0 fz e3 hfz.1 (a.eval xo) l2.length news k4' hr hfit
     rw[hty'.size]at hrun hfit
     let c':Array Value:=(c.toList.take (l'.length*e.sz E.G.sz)++news++c.toList.drop (l'.length*e.sz E.G.sz+news.length)).toArray
     have hnew:(w.setRow b c').heap[b]? = some (.cells c' E0 fz):=setRow_heap w b c _ E0 _ e3
     have hoth:∀ k,k≠b→(w.setRow b c').heap[k]? = w.heap[k]?:=fun k hk=>setRow_other w b k _ hk
     obtain⟨p1,p2⟩:=k1.poke k3 (b:=b) (by simp) hoth (size_setRow ..) rfl rfl rfl
     have hndk:=k3.nd
     have hnb:∀ x∈Fn++F0,x≠b:=by
      intro x hx hxb
      subst hxb
      have h1:=aF.1 hndk
      rcases aE.1 hx with hx | hx
      ·exact h1.2.2 x hx x (aH ..) rfl
      ·exact(List.nodup_cons.1 h1.2.1).1 hx
     have hSb:∀ x,S x→x≠b:=fun x hx e=>k3.notS b (by simp) (e ▸ hx)
     have hfr:∀ (l:List (J E.G.T e)) (cs:List Value) (Fx:List Nat),RepL (RepE (G:=E.G) S w o e) l cs Fx→(∀ x∈Fx,x∈Fn++F0)→RepL (RepE (G:=E.G) S (w.setRow b c') o e) l cs Fx:=by
      intro l cs Fx hl hbd
      exact RepL.mono _ _ _ (fun x _ cc G hG' hr=>hr.frame (fun x hx=>⟨hx,hoth x (hSb x hx)⟩) (fun x hx=>hoth x (hnb x (hbd x (hG' x hx))))) hl
     have hrep:jq (G:=E.G) S (w.setRow b c') o e (l'++l2) [.slice (some ⟨b,0,none⟩) (l'.length+l2.length) cap] (b::(F0++Fn)):=by
      refine .inr ⟨b,cap,c',E0,fz,F0++Fn,by rw[hlen],by rw[hlen];exact hr,hnew,?_,?_⟩
      ·rw[hlen]
       show RepL _ _ (List.take _ (c.toList.take (l'.length*e.sz E.G.sz)++news++c.toList.drop (l'.length*e.sz E.G.sz+news.length))) _
       rw[List.take_left' (by rw[List.length_append,aU,Nat.min_eq_left hcl,hnl,Nat.add_mul])]
       exact RepL.app _ _ _ _ _ _ (hfr _ _ _ e4 fun x hx=>ay _ hx) (hfr _ _ _ k2 fun x hx=>ax _ hx)
      ·have hcl2:l'.length*e.sz E.G.sz≤c.size:=by rw[← aJ];exact hcl
       have hsc:c'.size=c.size:=by
        show(c.toList.take (l'.length*e.sz E.G.sz)++news++c.toList.drop (l'.length*e.sz E.G.sz+news.length)).toArray.size=_
        simp only[List.size_toArray,List.length_append,aU,aV,aJ]
        omega
       exact⟨by rw[hsc];exact hfz,by rw[hsc,q3],q4,rfl⟩
     have hLn:Loose C (w.setRow b c') S F2 ((b::(F0++Fn))++[]):=by
      rw[aL]
      have hm:∀ x,x∈b::(F0++Fn)↔x∈Fn++(b::F0):=by intro x;simp;constructor <;> (intro h;rcases h with h | h | h <;> simp[h])
      refine⟨?_,fun s x hx hx'=>p2.apart s x hx ((hm x).1 hx'),fun x hx=>p2.notS x ((hm x).1 hx),fun x hx=>p2.bnd x ((hm x).1 hx),fun x hx=>p2.fromF x ((hm x).1 hx)⟩
      have h1:=aF.1 hndk
      have h2:=List.nodup_cons.1 h1.2.1
      refine List.nodup_cons.2 ⟨fun hx=>?_,aF.2 ⟨h2.2,h1.1,fun x hx y hy hxy=>h1.2.2 y hy x (aI _ hx) hxy.symm⟩⟩
      rcases aE.1 hx with hx | hx
      ·exact h2.1 hx
      ·exact h1.2.2 b hx b (aH ..) rfl
     exact fin (Lx:=[]) (fun cs h=>(by cases h)) p1 hLn hrep hrun
    ·have h1:=aF.1 k3.nd
     have h2:=List.nodup_cons.1 h1.2.1
     have hnd:(F0++Fn).Nodup:=aF.2 ⟨h2.2,h1.1,fun x hx y hy hxy=>h1.2.2 y hy x (aI _ hx) hxy.symm⟩
     have hm:∀ x,x∈F0++Fn→x∈Fn++(b::F0):=by intro x hx;rcases aE.1 hx with hx | hx <;> simp[hx]
     refine grow (some ⟨b,0,none⟩) cap _ F0 rfl (by omega) e4 hnd ⟨hnd,fun s x hx hx'=>k3.apart s x hx (hm x hx'),fun x hx=>k3.notS x (hm x hx),fun x hx=>k3.bnd x (hm x hx),fun x hx=>k3.fromF x (hm x hx)⟩ (fun w' hw=>?_)
     have hsl:(c.toList.take (l'.length*e.sz E.G.sz)).length=l'.length*inf'.size:=by rw[aU,Nat.min_eq_left hcl,hty'.size]
     refine run_firstCells_some w' inf'.size l'.length ⟨b,0,none⟩ l'.length cap _ hsl fun j u hu=>?_
     rw[gH]
     simp only[World.cell?,hw,e3]
     have hj:j<(c.toList.take (l'.length*e.sz E.G.sz)).length:=(List.getElem?_eq_some_iff.1 hu).1
     rw[aU,Nat.min_eq_left hcl]at hj
     rw[List.getElem?_take,bw hj]at hu
     simpa using hu
  ·exact aA (F:=Fa) h3
 ·exact aA (F:=Fa) hm
end
section
variable {P:Program} (w:World)
theorem Vl(t tx ty e:TypeId)(i:TypeInfo)(ht:P.underlying t=some (.slice e))(hi:P.info? e=some i)(g dLen dCap:Nat)(cur:Array Value)(T:TypeId)(fz:Nat×Nat)(hg:w.heap[g]? = some (.cells cur T fz))(hfz:jo fz cur.size)(x:Value)(n:Nat)(news:List Value)
  (hs:Src P i.size tx x n news w) (hn:n≤dLen) (hfit:news.length≤cur.size) :
  (Builtin.copy_ #[t,tx] ty #[.slice (some ⟨g,0,none⟩) dLen dCap,x]).run P w = .ok (goInt n) (w.setRow g (news++cur.toList.drop news.length).toArray):=by
 have hst:=qk P g 0 T fz news 0 cur w hg hfz (by simpa using hfit) hs.one
 simp only[Nat.add_zero,Nat.zero_add,List.take_zero,bl]at hst
 simp[Builtin.copy_,run_underlying ht,sizeOf,typeInfo,hi,hs.len,Nat.min_eq_left hn,hs.cells,hst]
theorem Vk(t tx ty e:TypeId)(i:TypeInfo)(ht:P.underlying t=some (.slice e))(hi:P.info? e=some i)(x:Value)(news:List Value)(hs:Src P i.size tx x 0 news w) :
  (Builtin.copy_ #[t,tx] ty #[.slice none 0 0,x]).run P w = .ok (goInt 0) w:=by
 have:=hs.cells
 simp[Builtin.copy_,run_underlying ht,sizeOf,typeInfo,hi,hs.len,this]
theorem NP{ats:Array TypeId}{t tx ty:TypeId}{args:Array Value}(h0:ats[0]? = some t):Builtin.copy_ ats ty args=Builtin.copy_ #[t,tx] ty args:=by
 unfold Builtin.copy_
 rw[h0]
 rfl
end
section
variable {E:Env} {Fa:cr E.Z} {C:Ctx} {σ σ1:St E.G} {a:Act} {w:World} {S:Nat→Prop} {F:Nat→List Nat} {V:Nat→Value} {L:List Nat} {fn:Fn}
theorem NO(hT:∀ t ft,E.ty t=some ft→dh E.G C.P E.ty t ft=true)(h:Ok C σ a w S F V){t tx ty:TypeId}{ats:Array TypeId}(h0:ats[0]? = some t){r:bX E}{dop xo:Operand}
  (hm:(GE (E:=E) (E.ty t) (E.ty tx) dop xo).run Fa σ=some (r,σ1)):Res C a σ1 r (Builtin.copy_ ats ty #[a.eval dop,a.eval xo]) w:=by
 rw[NP (tx:=tx) h0]
 obtain⟨hseq,hm⟩:=aC hm
 split at hm
 ·rename_i e ht
  obtain⟨inf,z,hty⟩:=TyOK.of (hT t _ ht)
  obtain⟨et,hu,he⟩:=hty.desc
  obtain⟨inf',z',hty'⟩:=TyOK.of (hT et _ he)
  obtain⟨hf,hm⟩:=aC hm
  obtain⟨l2,σ2,h4,h3⟩:=az hm
  obtain⟨F2,k1,news,Fn,k2,k3,k4⟩:=Lm hT h (L:=[]) Loose.nil hseq h4
  obtain⟨p,σ3,h5,h6⟩:=az h3
  obtain⟨rfl,hp⟩:=cY k1 h5
  have hzpos:0<e.sz E.G.sz:=hty'.pos
  have hnl:news.length=l2.length*e.sz E.G.sz:=k4.newsLen
  have k4':Src C.P inf'.size tx (a.eval xo) l2.length news w:=by rw[hty'.size];exact k4
  have k2f:=fun(w':World)=>qg (S':=S) (w':=w') (o':=true) hf _ _ _ k2
  obtain⟨vp,hvp⟩:∃ vp,vp=a.eval dop:=⟨_,rfl⟩
  rw[← hvp]at hp ⊢
  cases p with
  | ali s q g=>cases q with
   | nil =>
    change M.run Fa (match (σ3.slot s).cont with
     | .data d=>need (dK (σ3.slot s) [] g && !(σ3.slot s).box) (match coJ E.G true deep (.sl e) d.b d.x with
      | some l=>.chk (List.length (α:=J E.G.T e) l2≤List.length (α:=J E.G.T e) l) inferInstance
        (.setS s { σ3.slot s with gen:=(σ3.slot s).gen+1,orig:=none,cont:=.data ⟨.leaf true (.sl e),List.append (α:=J E.G.T e) l2 (List.drop (α:=J E.G.T e) (List.length (α:=J E.G.T e) l2) l)⟩ } (.ret (vI .i64 (List.length (α:=J E.G.T e) l2:Int))))
      | none=>.fail)
     | _=>.fail) σ3=some (r,σ1)at h6
    cases hc:(σ3.slot s).cont with
    | dead=>rw[hc]at h6;exact aA (F:=Fa) h6
    | word _=>rw[hc]at h6;exact aA (F:=Fa) h6
    | frz _=>rw[hc]at h6;exact aA (F:=Fa) h6
    | data d =>
     rw[hc]at h6
     obtain⟨hcur,h6⟩:=aC h6
     simp only[aD,Bool.not_eq_true']at hcur
     obtain⟨hcur,hbox⟩:=hcur
     split at h6
     ·rename_i l hco
      obtain⟨hroom,h6⟩:=M.run_chk h6
      obtain⟨l',hl'⟩:∃ l':List (J E.G.T e),l'=l:=⟨l,rfl⟩
      subst hl'
      have hroom':l2.length≤l'.length:=hroom
      change some (vI .i64 (l2.length:Int),σ3.setS s ⟨(σ3.slot s).gen+1,(σ3.slot s).born,(σ3.slot s).box,none,.data ⟨.leaf true (.sl e),(l2++l'.drop l2.length:List (J E.G.T e))⟩⟩)=some (r,σ1)at h6
      cases h6
      have hborn:(σ3.slot s).born≤g:=by
       unfold dK at hcur
       rw[hbox]at hcur
       exact aG hcur
      have hV:vp=V s:=hp.2.1 rfl hbox hborn
      have hs:=k1.slots s
      unfold cO at hs
      rw[hc]at hs
      simp only at hs
      rw[bz (by rw[hbox];decide)]at hs
      obtain⟨hr,hsh⟩:=hs
      rw[← hV]at hr hsh
      have hag:∀ cs,vp ≠ .agg cs:=rt hco hsh
      have hr2:=gt (S':=S) hco hr (fun b hb=>hb) (fun h=>by cases h)
      rw[dP hag]at hr2
      have hr3:RepE S w true (.sl e) l' [vp] (F2 s):=hr2
      have hll:(l2++l'.drop l2.length:List (J E.G.T e)).length=l'.length:=by rw[List.length_append,aV];omega
      have fin:∀ (w':World) (Fs':List Nat),(∀ x∈Fs',x∈F2 s)→Fs'.Nodup→(∀ k,k∉Fs'→w'.heap[k]? = w.heap[k]?)→w'.heap.size=w.heap.size→w'.os=w.os→w'.tape=w.tape→w'.output=w.output →
        RepE (G:=E.G) S w' true (.sl e) (l2++l'.drop l2.length) [vp] Fs'→l2.length≤9223372036854775807→(Builtin.copy_ #[t,tx] ty #[vp,a.eval xo]).run C.P w = .ok (goInt l2.length) w' →
        Res C a (σ3.setS s ⟨(σ3.slot s).gen+1,(σ3.slot s).born,(σ3.slot s).box,none,.data ⟨.leaf true (.sl e),(l2++l'.drop l2.length:List (J E.G.T e))⟩⟩) (vI .i64 (l2.length:Int)) (Builtin.copy_ #[t,tx] ty #[vp,a.eval xo]) w:=by
       intro w' Fs' hsub hnd hoth hsz hos htape hout hrep hle hrun
       have hok:=k1.turn (s0:=s) (x':=⟨(σ3.slot s).gen+1,(σ3.slot s).born,(σ3.slot s).box,none,.data ⟨.leaf true (.sl e),(l2++l'.drop l2.length:List (J E.G.T e))⟩⟩) (v':=V s) (F':=Fs') (S':=S) (w':=w')
        (fun x hx=>⟨hx,hoth x fun hx'=>k1.notSd hc x (hsub x hx') hx⟩) (fun s' hne x hx=>hoth x fun hx'=>k1.apart s' s hne x hx (hsub x hx')) (Nat.lt_succ_self _) (.inr ⟨rfl,rfl,rfl⟩) (Nat.le_succ_of_le (k1.born s)) (by
         unfold cO
         simp only
         rw[bz (by rw[hbox];decide),← hV]
         refine⟨?_,fun cs h=>hag cs h⟩
         rw[dP hag]
         exact hrep) hnd
        (fun x hx=>k1.notSd hc x (hsub x hx)) (fun s' hne x hx=>⟨fun hx'=>k1.apart s' s hne x hx (hsub x hx'),k1.notS s' x hx⟩) (fun x hx=>by rw[hsz];exact k1.bnd s x (hsub x hx)) (fun x hx=>by rw[hsz];exact k1.bndS x hx) (by rw[hsz];exact aK _)
        (fun x q1 q2=>hoth x fun hx'=>by rcases k1.fromF s x (hsub x hx')with q3 | q3;· exact q2 q3
                                         ·omega)
        (fun x hx=>k1.fromF s x (hsub x hx)) k1.fromS hos htape hout (fun _=>rfl) (fun i q1=>by cases q1)
       rw[jm]at hok
       exact⟨_,_,hrun,S,_,V,hok,eb (by rw[IntKind.wrap_i64];omega)⟩
      rcases repE_slT.1 hr3 with ⟨e1,e2,e3⟩ | ⟨b,off,cap,c,E0,fz,F0,e1,e2,e3,e4,e5⟩
      ·obtain rfl:vp = .slice none 0 0:=by simpa using e1
       subst e2
       have hl2:l2=[]:=List.eq_nil_of_length_eq_zero (by simpa using hroom')
       subst hl2
       have hrun:=Vk (P:=C.P) w t tx ty et inf' hu hty'.info (a.eval xo) news k4'
       exact fin w [] (fun x hx=>by cases hx) List.nodup_nil (fun _ _=>rfl) rfl rfl rfl rfl (repE_slT.2 (.inl ⟨rfl,rfl,rfl⟩)) (by simp) hrun
      ·obtain rfl:vp = .slice (some ⟨b,off,none⟩) l'.length cap:=by simpa using e1
       rw[bw rfl]at e5
       obtain⟨rfl,hfz,q3,q4,q5⟩:=e5
       rw[aQ]at e4
       have hcl:l'.length*e.sz E.G.sz≤c.size:=by rw[q3];exact aM _ e2
       have hnc:news.length≤c.size:=by rw[hnl];exact Nat.le_trans (aM _ hroom') hcl
       have hrun:=Vl (P:=C.P) w t tx ty et inf' hu hty'.info b l'.length cap c E0 fz e3 hfz.1 (a.eval xo) l2.length news k4' hroom' hnc
       let c':Array Value:=(news++c.toList.drop news.length).toArray
       have hnew:(w.setRow b c').heap[b]? = some (.cells c' E0 fz):=setRow_heap w b c _ E0 _ e3
       have hF0:RepL (RepE (G:=E.G) S (w.setRow b c') true e) l' (c.toList.take (l'.length*e.sz E.G.sz)) []:=qg hf _ _ _ e4
       obtain⟨Fx,Fy,x1,x2,x3⟩:=RepL.split (n:=e.sz E.G.sz) (fun x c G h=>h.len) l2.length _ _ _ hF0
       have hFy:Fy=[]:=by cases Fx <;> simp at x1 <;> exact x1
       subst hFy
       refine fin (w.setRow b c') [b] (fun x hx=>by rw[q5];simp at hx;subst hx;exact aH ..) (by simp) (fun k hk=>setRow_other w b k _ (by simpa using hk)) (size_setRow ..) rfl rfl rfl ?_ (by omega) hrun
       refine repE_sl.2 (.inr ⟨b,0,cap,c',E0,fz,[],by rw[hll],by rw[hll];exact e2,hnew,?_,?_⟩)
       ·rw[hll,aQ]
        have hsp:List.take (l'.length*e.sz E.G.sz) c'.toList=news++(c.toList.take (l'.length*e.sz E.G.sz)).drop (l2.length*e.sz E.G.sz):=by
         show List.take _ (news++c.toList.drop news.length)=_
         rw[List.take_append,bg (by rw[hnl];exact aM _ hroom'),List.drop_take,hnl]
        rw[hsp]
        exact RepL.app _ _ _ _ [] [] (k2f _) x3
       ·rw[bw rfl]
        have hsc:c'.size=c.size:=by
         show(news++c.toList.drop news.length).toArray.size=_
         simp only[List.size_toArray,List.length_append,aV,aJ]
         omega
        exact⟨rfl,by rw[hsc];exact hfz,by rw[hsc,q3],q4,rfl⟩
     ·exact aA (F:=Fa) h6
   | cons _ _=>exact aA (F:=Fa) h6
  | _=>exact aA (F:=Fa) h6
 ·exact aA (F:=Fa) hm
theorem Nn{ats:Array TypeId}{t ty:TypeId}{args:Array Value}(h0:ats[0]? = some t):Builtin.clear_ ats ty args=Builtin.clear_ #[t] ty args:=by
 unfold Builtin.clear_
 rw[h0]
 rfl
theorem Jx(t ty:TypeId){e:TypeId}(ht:C.P.underlying t=some (.slice e))(p:Option Addr)(c:Nat)(w:World):(Builtin.clear_ #[t] ty #[.slice p 0 c]).run C.P w = .ok (.tuple #[]) w:=by
 cases p <;> simp[Builtin.clear_,run_underlying ht]
theorem Nm(hT:∀ t ft,E.ty t=some ft→dh E.G C.P E.ty t ft=true)(h:Ok C σ a w S F V){t ty:TypeId}{ats:Array TypeId}(h0:ats[0]? = some t){p r:bX E}{v:Value}(hp:b9 S w σ.slot V p v)
  (hm:(o3 (E:=E) (E.ty t) p).run Fa σ=some (r,σ1)):Res C a σ1 r (Builtin.clear_ ats ty #[v]) w:=by
 rw[Nn h0]
 unfold o3 at hm
 split at hm
 ·rename_i s g lo hi
  rw[M.run_getS]at hm
  split at hm
  ·rename_i e l hc
   obtain⟨hcs,hm⟩:=aC hm
   simp only[aD,Bool.not_eq_true']at hcs
   obtain⟨hsl,hf,hgen,hbox⟩:=hcs
   obtain⟨l',hl'⟩:∃ l':List (J E.G.T e),l'=l:=⟨l,rfl⟩
   subst hl'
   have ht:=jH hsl
   obtain⟨inf,z,hty⟩:=TyOK.of (hT t _ ht)
   obtain⟨et,hu,he⟩:=hty.desc
   obtain⟨inf',z',hty'⟩:=TyOK.of (hT et _ he)
   have hzpos:0<e.sz E.G.sz:=hty'.pos
   change some (.no,σ.setS s ⟨(σ.slot s).gen+1,(σ.slot s).born,(σ.slot s).box,none,.data ⟨.leaf true (.sl e),mY (α:=J E.G.T e) lo hi (cP E.G.zero e) l'⟩⟩)=some (r,σ1)at hm
   cases hm
   obtain⟨d1,cs1,ad1,e1,l1,cs2,ad2,p1,p2,p3,p4,p5,p6⟩:=hp.2 (Nat.eq_of_beq_eq_true hgen)
   rw[hc]at p1
   cases p1
   have p3':some ((⟨.leaf true (.sl e),l'⟩:DV E.G.T),cs1,ad1)=some ((⟨.leaf true (.sl e1),l1⟩:DV E.G.T),cs2,ad2):=p3
   cases p3'
   have p5':hi≤l'.length:=p5
   have hs:=h.slots s
   unfold cO at hs
   rw[hc]at hs
   simp only at hs
   rw[bz (by rw[hbox];decide)]at hs
   obtain⟨hr,hsh⟩:=hs
   unfold Root at p2
   rw[bz (by rw[hbox];decide)]at p2
   have hag:∀ cs,V s ≠ .agg cs:=hsh
   rw[dP hag]at hr p2
   have hr3:RepE S w true (.sl e) l' [V s] (F s):=hr
   have hll:(mY lo hi (cP E.G.zero e) l').length=l'.length:=by
    show((l'.take lo++List.replicate (hi-lo) (cP E.G.zero e))++l'.drop hi).length=_
    rw[List.length_append,List.length_append,aU,bf,aV];omega
   have fin:∀ (w':World) (Fs':List Nat),(∀ x∈Fs',x∈F s)→Fs'.Nodup→(∀ k,k∉Fs'→w'.heap[k]? = w.heap[k]?)→w'.heap.size=w.heap.size→w'.os=w.os→w'.tape=w.tape→w'.output=w.output →
     RepE (G:=E.G) S w' true (.sl e) (mY lo hi (cP E.G.zero e) l') [V s] Fs'→(Builtin.clear_ #[t] ty #[v]).run C.P w = .ok (.tuple #[]) w' →
     Res C a (σ.setS s ⟨(σ.slot s).gen+1,(σ.slot s).born,(σ.slot s).box,none,.data ⟨.leaf true (.sl e),mY (α:=J E.G.T e) lo hi (cP E.G.zero e) l'⟩⟩) .no (Builtin.clear_ #[t] ty #[v]) w:=by
    intro w' Fs' hsub hnd hoth hsz hos htape hout hrep hrun
    have hok:=h.turn (s0:=s) (x':=⟨(σ.slot s).gen+1,(σ.slot s).born,(σ.slot s).box,none,.data ⟨.leaf true (.sl e),mY (α:=J E.G.T e) lo hi (cP E.G.zero e) l'⟩⟩) (v':=V s) (F':=Fs') (S':=S) (w':=w')
     (fun x hx=>⟨hx,hoth x fun hx'=>h.notSd hc x (hsub x hx') hx⟩) (fun s' hne x hx=>hoth x fun hx'=>h.apart s' s hne x hx (hsub x hx')) (Nat.lt_succ_self _) (.inr ⟨rfl,rfl,rfl⟩) (Nat.le_succ_of_le (h.born s)) (by
      unfold cO
      simp only
      rw[bz (by rw[hbox];decide)]
      refine⟨?_,fun cs h=>hag cs h⟩
      rw[dP hag]
      exact hrep) hnd
     (fun x hx=>h.notSd hc x (hsub x hx)) (fun s' hne x hx=>⟨fun hx'=>h.apart s' s hne x hx (hsub x hx'),h.notS s' x hx⟩) (fun x hx=>by rw[hsz];exact h.bnd s x (hsub x hx)) (fun x hx=>by rw[hsz];exact h.bndS x hx) (by rw[hsz];exact aK _)
     (fun x q1 q2=>hoth x fun hx'=>by rcases h.fromF s x (hsub x hx')with q3 | q3;· exact q2 q3
                                      ·omega)
     (fun x hx=>h.fromF s x (hsub x hx)) h.fromS hos htape hout (fun _=>rfl) (fun i q1=>by cases q1)
    rw[jm]at hok
    exact⟨_,_,hrun,S,_,V,hok,trivial⟩
   have hsame:hi=lo→mY lo hi (cP E.G.zero e) l'=l':=fun e=>by
    subst e
    show(l'.take hi++List.replicate (hi-hi) _)++l'.drop hi=l'
    rw[Nat.sub_self,List.replicate_zero,aL,List.take_append_drop]
   rcases p6 with ⟨q1,q2⟩ | ⟨b,n,cap,off,cap',q1,q2,q3,q4⟩
   ·subst q2
    rcases repE_slT.1 hr3 with ⟨e1,e2,e3⟩ | ⟨b,off,cap,c,E0,fz,F0,e1,e2,e3,e4,e5⟩
    ·subst e2
     have h0:hi=lo:=by have:hi≤0:=p5';omega
     exact fin w (F s) (fun _ hx=>hx) (h.nd s) (fun _ _=>rfl) rfl rfl rfl rfl (by rw[hsame h0];exact hr3) (Jx t ty hu none 0 w)
    ·exfalso
     rw[p2.1]at q1
     rw[e1]at q1
     cases q1
   ·rcases repE_slT.1 hr3 with ⟨e1,e2,e3⟩ | ⟨b1,off1,cap1,c,E0,fz,F0,e1,e2,e3,e4,e5⟩
    ·exfalso
     rw[p2.1,e1]at q1
     cases q1
    ·rw[p2.1,e1]at q1
     cases q1
     rw[bw rfl]at e5
     obtain⟨_,hfz,q5,q6,q7⟩:=e5
     by_cases h0:hi=lo
     ·subst h0
      rw[Nat.sub_self]at q2
      subst q2
      exact fin w (F s) (fun _ hx=>hx) (h.nd s) (fun _ _=>rfl) rfl rfl rfl rfl (by rw[hsame rfl];exact hr3) (Jx t ty hu _ _ w)
     ·obtain rfl:off=lo*e.sz E.G.sz:=by rcases q4 with q4 | q4;exact q4;omega
      rw[aQ]at e4
      have hcl:l'.length*e.sz E.G.sz≤c.size:=by rw[q5];exact aM _ e2
      have hzsz:z'.cells.size=e.sz E.G.sz:=by rw[← aJ];exact(hty'.zrep S w true).len
      have hzs:=Mf z'.cells (by rw[hzsz];exact hzpos) (hi-lo)
      have hzl:(List.replicate (hi-lo) z'.cells.toList).flatten.length=(hi-lo)*e.sz E.G.sz:=by
       rw[List.length_flatten,List.map_replicate,aJ,hzsz,List.sum_replicate_nat]
      have hlt:lo<hi:=by omega
      have hhl:hi≤l'.length:=p5'
      have hadd:lo*e.sz E.G.sz+(hi-lo)*e.sz E.G.sz=hi*e.sz E.G.sz:=by rw[← Nat.add_mul];congr 1;omega
      have hhi:hi*e.sz E.G.sz≤c.size:=Nat.le_trans (aM _ hhl) hcl
      have hz1:∀ u∈(List.replicate (hi-lo) z'.cells.toList).flatten,u.oneCell'=true:=fun u hu=>by
       obtain⟨l0,hl0,hul⟩:=List.mem_flatten.1 hu
       rw[List.eq_of_mem_replicate hl0]at hul
       exact RepB.one (b:=.leaf true e) rfl (hty'.zrep S w true) u hul
      have hst:=qk C.P b (lo*e.sz E.G.sz) E0 fz (List.replicate (hi-lo) z'.cells.toList).flatten 0 c w e3 hfz.1 (by rw[hzl,Nat.add_zero,hadd];exact hhi) hz1
      simp only[Nat.add_zero]at hst
      let c':Array Value:=(c.toList.take (lo*e.sz E.G.sz)++(List.replicate (hi-lo) z'.cells.toList).flatten++c.toList.drop (lo*e.sz E.G.sz+(List.replicate (hi-lo) z'.cells.toList).flatten.length)).toArray
      have hrun:(Builtin.clear_ #[t] ty #[v]).run C.P w = .ok (.tuple #[]) (w.setRow b c'):=by
       rw[q2]
       obtain⟨m,hm⟩:∃ m,hi-lo=m+1:=⟨hi-lo-1,by omega⟩
       have hz2:Builtin.zeroCells z'.cells (m+1)=Builtin.zeroCells z'.cells (hi-lo):=by rw[hm]
       rw[hm]
       have hc':c'=(c.toList.take (lo*e.sz E.G.sz)++((List.replicate (hi-lo) z'.cells.toList).flatten++c.toList.drop (lo*e.sz E.G.sz+(hi-lo)*z'.cells.size))).toArray:=by
        show(c.toList.take (lo*e.sz E.G.sz)++(List.replicate (hi-lo) z'.cells.toList).flatten++c.toList.drop (lo*e.sz E.G.sz+(List.replicate (hi-lo) z'.cells.toList).flatten.length)).toArray=_
        rw[hzl,hzsz,List.append_assoc]
       rw[hc']
       simp[Builtin.clear_,run_underlying hu,hty'.run_zero,hz2,hzs,hst]
      have hnew:(w.setRow b c').heap[b]? = some (.cells c' E0 fz):=setRow_heap w b c _ E0 _ e3
      have hF0:RepL (RepE (G:=E.G) S (w.setRow b c') true e) l' (c.toList.take (l'.length*e.sz E.G.sz)) []:=qg hf _ _ _ e4
      obtain⟨Fx,Fy,x1,x2,x3⟩:=RepL.split (n:=e.sz E.G.sz) (fun x c G h=>h.len) hi _ _ _ hF0
      obtain⟨rfl,rfl⟩:Fx=[]∧Fy=[]:=by simpa using x1.symm
      obtain⟨Fu,Fv,y1,y2,y3⟩:=RepL.split (n:=e.sz E.G.sz) (fun x c G h=>h.len) lo _ _ _ x2
      obtain⟨rfl,rfl⟩:Fu=[]∧Fv=[]:=by simpa using y1.symm
      have hsc:c'.size=c.size:=by
       show(c.toList.take (lo*e.sz E.G.sz)++(List.replicate (hi-lo) z'.cells.toList).flatten++c.toList.drop (lo*e.sz E.G.sz+(List.replicate (hi-lo) z'.cells.toList).flatten.length)).toArray.size=_
       simp only[List.size_toArray,List.length_append,aU,aV,aJ,hzl]
       omega
      have hsp:c'.toList.take (l'.length*e.sz E.G.sz)=(((c.toList.take (l'.length*e.sz E.G.sz)).take (hi*e.sz E.G.sz)).take (lo*e.sz E.G.sz)++(List.replicate (hi-lo) z'.cells.toList).flatten)++(c.toList.take (l'.length*e.sz E.G.sz)).drop (hi*e.sz E.G.sz):=by
       show List.take _ ((c.toList.take (lo*e.sz E.G.sz)++(List.replicate (hi-lo) z'.cells.toList).flatten)++c.toList.drop (lo*e.sz E.G.sz+(List.replicate (hi-lo) z'.cells.toList).flatten.length))=_
       have m1:lo*e.sz E.G.sz≤hi*e.sz E.G.sz:=aM _ (Nat.le_of_lt hlt)
       have m2:hi*e.sz E.G.sz≤l'.length*e.sz E.G.sz:=aM _ hhl
       have hA:(c.toList.take (lo*e.sz E.G.sz)++(List.replicate (hi-lo) z'.cells.toList).flatten).length=hi*e.sz E.G.sz:=by
        rw[List.length_append,aU,hzl,aJ,Nat.min_eq_left (Nat.le_trans m1 hhi),hadd]
       rw[hzl,hadd,List.take_append,hA,bg (by rw[hA];exact m2),List.drop_take,List.take_take,List.take_take,Nat.min_eq_left m1,Nat.min_eq_left (Nat.le_trans m1 m2)]
      refine fin (w.setRow b c') [b] (fun x hx=>by rw[q7];simp at hx;subst hx;exact aH ..) (by simp) (fun k hk=>setRow_other w b k _ (by simpa using hk)) (size_setRow ..) rfl rfl rfl ?_ hrun
      rw[e1]
      refine repE_sl.2 (.inr ⟨b,0,cap,c',E0,fz,[],by rw[hll],by rw[hll];exact e2,hnew,?_,?_⟩)
      ·rw[hll,aQ,hsp]
       refine RepL.app _ _ _ _ [] [] (RepL.app _ _ _ _ [] [] ?_ (Fi (fun o=>hty'.zrep S (w.setRow b c') o) (hi-lo))) x3
       rw[List.take_take,Nat.min_eq_left (Nat.le_of_lt hlt)]at y2
       exact y2
      ·rw[bw rfl]
       exact⟨rfl,by rw[hsc];exact hfz,by rw[hsc,q5],q6,rfl⟩
  ·exact aA (F:=Fa) hm
 ·exact aA (F:=Fa) hm
end
end
section
theorem OD(off:Nat)(l:List Value)(cs:Array Value)(h:off+l.length≤cs.size) :
  ((l.zipIdx 0).foldl (fun cs (x:Value×Nat)=>cs.setIfInBounds (off+x.2) x.1) cs).toList=cs.toList.take off++l++cs.toList.drop (off+l.length):=by
 obtain⟨h1,h2⟩:=Great.foldl_set off l 0 cs
 apply List.ext_getElem?
 intro k
 rw[Array.getElem?_toList,h2 k]
 simp only[Nat.add_zero]
 have hlen:(cs.toList.take off).length=off:=by rw[aU,aJ];omega
 by_cases hk:off≤k∧k<off+l.length∧k<cs.size
 ·rw[bw hk,List.append_assoc,List.getElem?_append_right (by omega),hlen,List.getElem?_append_left (by omega)]
 ·rw[bz hk]
  by_cases hlt:k<off
  ·rw[List.append_assoc,List.getElem?_append_left (by omega),List.getElem?_take,bw hlt,Array.getElem?_toList]
  ·rw[List.append_assoc,List.getElem?_append_right (by omega),hlen,List.getElem?_append_right (by omega),List.getElem?_drop,Array.getElem?_toList]
   congr 1;omega
def kR:Nat→List Nat→List (Nat×Nat)
 | _,[]=>[]
 | off,n::ns=>(off,n)::kR (off+n) ns
theorem Je:∀ (ns:List Nat) (off i n:Nat),ns[i]? = some n→(kR off ns)[i]? = some (off+(ns.take i).sum,n)
 | m::ns,off,0,n,h=>by simp at h;simp[kR,h]
 | m::ns,off,i+1,n,h=>by
  simp only[List.getElem?_cons_succ]at h
  simp only[kR,List.getElem?_cons_succ,Je ns (off+m) i n h,List.take_succ_cons,List.sum_cons]
  congr 2;omega
 | [],off,i,n,h=>by simp at h
theorem Hd:∀ (segs:List (List Value)) (i:Nat) (v:List Value),i<segs.length→(segs.set i v).flatten=segs.flatten.take ((segs.map List.length).take i).sum++v++segs.flatten.drop (((segs.map List.length).take i).sum+(segs[i]?.getD []).length)
 | s::segs,0,v,_=>by simp
 | s::segs,i+1,v,h=>by
  have ih:=Hd segs i v (by simpa using h)
  simp only[List.set_cons_succ,List.flatten_cons,bj,List.take_succ_cons,List.sum_cons,List.getElem?_cons_succ]
  rw[ih,List.take_length_add_append,Nat.add_assoc,List.drop_length_add_append]
  simp
 | [],i,v,h=>by simp at h
def mP:List (List Value)→List (Nat×Value)→List (List Value)
 | segs,[]=>segs
 | segs,(i,v)::ps=>mP (segs.set i v.cells.toList) ps
theorem G4(sizes:List Nat):∀ (parts:List (Nat×Value)) (segs:List (List Value)) (cells:Array Value),cells.toList=segs.flatten→segs.map List.length=sizes→(∀ q∈parts,sizes[q.1]? = some q.2.cells.size) →
  ∃ r,Instr.fill ((kR 0 sizes).toArray[·]?) cells parts=some r∧r.toList=(mP segs parts).flatten
 | [],segs,cells,h1,h2,h3=>⟨cells,rfl,h1⟩
 | (i,v)::ps,segs,cells,h1,h2,h3=>by
  have hi:=h3 (i,v) (aH ..)
  simp only at hi
  have hp:=Je sizes 0 i _ hi
  have hlt:i<sizes.length:=(List.getElem?_eq_some_iff.1 hi).1
  have hlt':i<segs.length:=by rw[← h2,bn]at hlt;exact hlt
  have hseg:(segs[i]?.getD []).length=v.cells.size:=by
   rw[← h2,List.getElem?_map]at hi
   simp only[List.getElem?_eq_getElem hlt',Option.map_some,Option.some.injEq]at hi
   simp[hlt',hi]
  have hfit:(sizes.take i).sum+v.cells.size≤cells.size:=by
   have e1:cells.size=sizes.sum:=by
    rw[← aJ,h1,List.length_flatten,h2]
   have e2:sizes.sum=(sizes.take i).sum+(sizes.drop i).sum:=by
    conv=>lhs;rw[← List.take_append_drop i sizes,List.sum_append]
   have e3:sizes.drop i=v.cells.size::sizes.drop (i+1):=by
    rw[List.drop_eq_getElem_cons hlt]
    congr 1
    exact(List.getElem?_eq_some_iff.1 hi).2
   rw[e1,e2,e3,List.sum_cons];omega
  have hfold:=OD (sizes.take i).sum v.cells.toList cells (by rw[aJ];exact hfit)
  obtain⟨r,hr1,hr2⟩:=G4 sizes ps (segs.set i v.cells.toList) ((v.cells.toList.zipIdx 0).foldl (fun cs (x:Value×Nat)=>cs.setIfInBounds ((sizes.take i).sum+x.2) x.1) cells)
   (by rw[hfold,h1,Hd segs i _ hlt',h2,hseg,aJ])
   (by
    rw[List.map_set,h2]
    apply List.ext_getElem?
    intro k
    rw[List.getElem?_set]
    split
    ·rename_i e
     subst e
     rw[hi,aJ]
    ·rfl)
   (fun q hq=>h3 q (aI _ hq))
  refine⟨r,?_,hr2⟩
  unfold Instr.fill
  have hp':(kR 0 sizes).toArray[i]? = some ((sizes.take i).sum,v.cells.size):=by
   rw[List.getElem?_toArray,hp,Nat.zero_add]
  simp only[hp']
  rw[bz (by simp;omega),← hr1]
  congr 1
  rw[← Array.foldl_toList,Array.toList_zipIdx]
theorem K4:∀ (ps:List (Nat×Value)) (segs:List (List Value)),(mP segs ps).length=segs.length
 | [],segs=>rfl
 | (i,v)::ps,segs=>by rw[mP,K4 ps];simp
theorem K3:∀ (ps:List (Nat×Value)) (segs:List (List Value)) (k:Nat),k<segs.length→(∀ q∈ps,∀ q'∈ps,q.1=q'.1→q.2=q'.2) →
  (mP segs ps)[k]? = match ps.find? (fun q=>Nat.beq q.1 k) with
   | some q=>some q.2.cells.toList
   | none=>segs[k]?
 | [],segs,k,hk,_=>rfl
 | (i,v)::ps,segs,k,hk,hd=>by
  rw[mP,K3 ps _ k (by simpa using hk) fun q hq q' hq'=>hd q (aI _ hq) q' (aI _ hq')]
  by_cases e:i=k
  ·subst e
   have hb:Nat.beq i i=true:=Nat.beq_refl i
   rw[List.find?_cons_of_pos (by simp)]
   cases hf:ps.find? (fun q=>Nat.beq q.1 i) with
   | none=>simp[hk]
   | some q =>
    have hq:=List.find?_some hf
    have hm:=List.mem_of_find?_eq_some hf
    have:=hd (i,v) (aH ..) q (aI _ hm) (cn hq).symm
    simp only at this ⊢
    rw[this]
  ·rw[List.find?_cons_of_neg (by simp[e])]
   cases hf:ps.find? (fun q=>Nat.beq q.1 k) with
   | none=>simp only;rw[List.getElem?_set_ne e]
   | some q=>rfl
section
variable {G:Gam} {P:Program} {ty:Nat→Option FT}
theorem GY:∀ (fs:List Field) (ts:List FT) (off:Nat),fg G P ty off fs ts=true→fs.mapM (fun f=>(P.info? f.type).map fun i=>(f.offset,i.size))=some (kR off (ts.map fun t=>t.sz G.sz))
 | [],[],off,_=>rfl
 | f::fs,t::ts,off,h=>by
  simp only[fg,aD]at h
  obtain⟨⟨⟨h1,h2⟩,h3⟩,h4⟩:=h
  cases hin:P.info? f.type with
  | none=>rw[hin]at h3;cases h3
  | some inf =>
   rw[hin]at h3
   simp only[aD]at h3
   have ih:=GY fs ts _ h4
   simp only[List.mapM_cons,hin,Option.map_some,Option.bind_eq_bind,Option.bind_some,ih,Option.pure_def,bj,kR]
   rw[cn h1,cn h3.1]
 | [],t::ts,off,h=>by simp[fg]at h
 | f::fs,[],off,h=>by simp[fg]at h
def gB(G:Gam):List FT→List Value→List (List Value)
 | [],_=>[]
 | t::ts,cs=>cs.take (t.sz G.sz)::gB G ts (cs.drop (t.sz G.sz))
theorem K0:∀ (ts:List FT) (cs:List Value),cs.length=FT.szs G.sz ts→(gB G ts cs).flatten=cs∧(gB G ts cs).map List.length=ts.map fun t=>t.sz G.sz
 | [],cs,h=>by
  have:cs=[]:=List.eq_nil_of_length_eq_zero h
  subst this;exact⟨rfl,rfl⟩
 | t::ts,cs,h=>by
  have h':cs.length=t.sz G.sz+FT.szs G.sz ts:=h
  obtain⟨h1,h2⟩:=K0 ts (cs.drop (t.sz G.sz)) (by rw[aV];omega)
  exact⟨by simp only[gB,List.flatten_cons,h1,List.take_append_drop],by simp only[gB,bj,h2,aU];congr 1;omega⟩
theorem K1{S:Nat→Prop}{w:World}{o:Bool}:∀ (ts:List FT) (cs:List Value) (Fx:List Nat),RepFs (fun t y=>RepE (G:=G) S w o t y) ts (iH G.zero ts) cs Fx→Fx=[]→∀ (k:Nat) (t:FT),ts[k]? = some t→∃ c,(gB G ts cs)[k]? = some c∧RepE (G:=G) S w o t (cP G.zero t) c []
 | t::ts,cs,Fx,⟨c1,c2,F1,F2,h1,h2,h3,h4⟩,hF,k,t',hk=>by
  subst h1
  rw[hF]at h2
  have h2':=List.append_eq_nil_iff.1 h2.symm
  have hl:=h3.len
  cases k with
  | zero =>
   obtain rfl:t=t':=by simpa using hk
   refine⟨c1,?_,by rw[← h2'.1];exact h3⟩
   simp only[gB,List.getElem?_cons_zero]
   rw[← hl,List.take_left]
  | succ k =>
   obtain⟨c,k1,k2⟩:=K1 ts c2 F2 h4 h2'.2 k t' (by simpa using hk)
   refine⟨c,?_,k2⟩
   simp only[gB,List.getElem?_cons_succ]
   rw[← hl,List.drop_left]
   exact k1
 | [],cs,Fx,h,hF,k,t',hk=>by simp at hk
end
section
variable {E:Env} {Fa:cr E.Z} {C:Ctx} {a:Act} {w:World} {S:Nat→Prop} {V:Nat→Value} {fn:Fn}
theorem ZW{k:Nat}{t:FT}{cs:List Value}(h:∀ o,RepE (G:=E.G) S w o t (cP E.G.zero t) cs []):(oL E.G k t).b.whole=true∧(oL E.G k t).b.sz E.G=t.sz E.G.sz∧RepB S w (oL E.G k t).b (oL E.G k t).x cs []:=by
 unfold oL
 cases Nat.beq k 7 with
 | false=>cases t <;> exact⟨rfl,rfl,h _⟩
 | true =>
  cases t with
  | sl e =>
   refine⟨rfl,rfl,?_⟩
   rcases repE_slT.1 (show RepE (G:=E.G) S w true (.sl e) ([]:List (J E.G.T e)) cs []from h true)with h | ⟨b,off,cap,c,E0,fz,F',_,_,_,_,k⟩
   ·exact .inl h
   ·rw[bw rfl]at k;cases k.2.2.2.2
  | _=>exact⟨rfl,rfl,h _⟩
theorem UI{ka:Nat}(parts:List (Nat×Operand))(zs:Nat→List Value):∀ (ts:List FT) (i:Nat) (σ σ1:St E.G) (F:Nat→List Nat) (L:List Nat) (r:DV E.G.T),Ok C σ a w S F V→Loose C w S F L→(∀ k t,ts[k]? = some t→∀ o,RepE (G:=E.G) S w o t (cP E.G.zero t) (zs (i+k)) []) →
  (sG (E:=E) ka ts i parts).run Fa σ=some (r,σ1)→∃ (F1:Nat→List Nat) (segs:List (List Value)) (Fd:List Nat),Ok C σ1 a w S F1 V∧Loose C w S F1 (Fd++L)∧RepB S w r.b r.x segs.flatten Fd∧r.b.whole=true∧(∃ x y:BT,r.b = .pr x y∨r.b = .un)∧segs.length=ts.length ∧
   (∀ k,k<ts.length→segs[k]? = some (match parts.find? (fun q=>Nat.beq q.1 (i+k))with | some q=>(a.eval q.2).cells.toList | none=>zs (i+k)))∧segs.map List.length=ts.map fun t=>t.sz E.G.sz:=by
 intro ts
 induction ts with
 | nil =>
  intro i σ σ1 F L r h hL hz hm
  obtain⟨rfl,rfl⟩:=aB (F:=Fa) hm
  exact⟨F,[],[],h,hL,⟨rfl,rfl⟩,rfl,⟨.un,.un,.inr rfl⟩,rfl,fun k hk=>by simp at hk,rfl⟩
 | cons t ts ih =>
  intro i σ σ1 F L r h hL hz hm
  unfold sG at hm
  obtain⟨d,σ2,h1,h2⟩:=az hm
  obtain⟨r2,σ3,h3,h4⟩:=az h2
  obtain⟨rfl,rfl⟩:=aB (F:=Fa) h4
  have first:∃ F1 Fd,Ok C σ2 a w S F1 V∧Loose C w S F1 (Fd++L)∧d.b.whole=true∧d.b.sz E.G=t.sz E.G.sz∧RepB S w d.b d.x (match parts.find? (fun q=>Nat.beq q.1 i)with | some q=>(a.eval q.2).cells.toList | none=>zs i) Fd:=by
   cases hf:parts.find? (fun q=>Nat.beq q.1 i) with
   | none =>
    rw[hf]at h1
    obtain⟨rfl,rfl⟩:=aB (F:=Fa) h1
    obtain⟨e1,e2,e3⟩:=ZW (k:=ka) (hz 0 t rfl)
    exact⟨F,[],h,hL,e1,e2,e3⟩
   | some q =>
    rw[hf]at h1
    obtain⟨p,σ4,h5,h6⟩:=az h1
    obtain⟨rfl,hp⟩:=cY h h5
    obtain⟨d',σ5,h7,h8⟩:=az h6
    obtain⟨h9,h10⟩:=aC h8
    obtain⟨rfl,rfl⟩:=aB (F:=Fa) h10
    obtain⟨F1,g1,g2,g3,Fd,g4,g5⟩:=jk h hL hp h7
    exact⟨F1,Fd,g1,g5,g2,(ji deep).1 _ _ h9,g4⟩
  obtain⟨F1,Fd,g1,g2,g3,g3',g4⟩:=first
  obtain⟨F2,segs,Fd2,k1,k2,k3,k4,k5,k6,k7,k8⟩:=ih (i+1) σ2 σ1 F1 (Fd++L) r2 g1 g2 (fun k t' hk o=>by have:=hz (k+1) t' (by simpa using hk) o;rw[show i+1+k=i+(k+1) by omega];exact this) h3
  refine⟨F2,_::segs,Fd++Fd2,k1,?_,⟨_,_,Fd,Fd2,by rw[List.flatten_cons],rfl,g4,k3⟩,by simp only[BT.whole,g3,k4,Bool.and_self],⟨_,_,.inl rfl⟩,by simp[k6],fun k hk=>?_,?_⟩
  ·have hm:∀ x,x∈(Fd++Fd2)++L→x∈Fd2++(Fd++L):=by
    intro x hx
    simp only[aE]at hx ⊢
    rcases hx with (hx | hx) | hx
    ·exact .inr (.inl hx)
    ·exact .inl hx
    ·exact .inr (.inr hx)
   refine⟨?_,fun s x hx hx'=>k2.apart s x hx (hm x hx'),fun x hx=>k2.notS x (hm x hx),fun x hx=>k2.bnd x (hm x hx),fun x hx=>k2.fromF x (hm x hx)⟩
   have h1:=aF.1 k2.nd
   have h2:=aF.1 h1.2.1
   rw[List.append_assoc]
   refine aF.2 ⟨h2.1,aF.2 ⟨h1.1,h2.2.1,fun x hx y hy e=>h1.2.2 x hx y (ay _ hy) e⟩,fun x hx y hy e=>?_⟩
   rcases aE.1 hy with hy | hy
   ·exact h1.2.2 y hy x (ax _ hx) e.symm
   ·exact h2.2.2 x hx y hy e
  ·cases k with
   | zero=>simp
   | succ k =>
    have:=k7 k (by simpa using hk)
    rw[List.getElem?_cons_succ,this,show i+1+k=i+(k+1) by omega]
  ·rw[bj,bj,k8]
   congr 1
   exact(RepB.len g4).trans g3'
theorem I8:∀ (n:Nat) (parts:List (Nat×Operand)),sH n parts=true→(∀ q∈parts,q.1<n)∧(∀ q∈parts,∀ q'∈parts,q.1=q'.1→q=q')
 | n,[],_=>⟨fun _ h=>(by cases h),fun _ h=>(by cases h)⟩
 | n,(i,x)::ps,h=>by
  simp only[sH,aD,List.all_eq_true,Bool.not_eq_true']at h
  obtain⟨⟨h1,h2⟩,h3⟩:=h
  obtain⟨k1,k2⟩:=I8 n ps h3
  have hne:∀ q∈ps,q.1≠i:=fun q hq e=>by
   have:=h2 q hq
   rw[e]at this
   simp at this
  refine⟨fun q hq=>?_,fun q hq q' hq' e=>?_⟩
  ·rcases aO.1 hq with rfl | hq
   ·exact aG h1
   ·exact k1 q hq
  ·rcases aO.1 hq with rfl | hq
   ·rcases aO.1 hq' with rfl | hq'
    ·rfl
    ·exact absurd e.symm (hne q' hq')
   ·rcases aO.1 hq' with rfl | hq'
    ·exact absurd e (hne q hq)
    ·exact k2 q hq q' hq' e
theorem Ua{d:DV E.G.T}{n:Nat}{cs:List Value}{Fd:List Nat}(h:RepB S w d.b d.x cs Fd):RepB S w (normal (E:=E) d n).b (normal (E:=E) d n).x cs Fd:=by
 unfold normal
 split
 ·rename_i y hy
  have h1:RepE S w true (.nm n) y cs Fd:=gt (S':=S) hy h (fun b hb=>hb) (fun h=>by cases h)
  cases hf:E.G.flat n with
  | false=>exact h1
  | true =>
   obtain⟨e,h2⟩:=h1.flat (show FT.flat E.G.flat (.nm n)=true from hf) false S w
   rw[e];exact h2
 ·cases hc:d.b.cp E.G with
  | false=>exact h
  | true =>
   simp only[cond_true]
   have e:=RepB.cp hc h
   subst e
   split
   ·rename_i y hy
    exact gt (S':=S) hy h (fun b hb=>hb) (fun _ b hb=>by cases hb)
   ·exact h
theorem Ub{d:DV E.G.T}{n:Nat}{v:Value}(h:Shaped d.b v)(hv:∃ cs,v = .agg cs):Shaped (normal (E:=E) d n).b v:=by
 unfold normal
 split
 ·exact hv
 ·cases d.b.cp E.G with
  | false=>exact h
  | true =>
   simp only[cond_true]
   split
   ·exact hv
   ·exact h
theorem G5(a:Act)(k:Nat):∀ (parts:List (Nat×Operand)),(parts.map fun x=>(x.1,a.eval x.2)).find? (fun q=>Nat.beq q.1 k)=(parts.find? (fun q=>Nat.beq q.1 k)).map fun x=>(x.1,a.eval x.2)
 | []=>rfl
 | q::ps=>by
  simp only[bj,List.find?_cons]
  cases e:Nat.beq q.1 k with
  | true=>rfl
  | false=>exact G5 a k ps
theorem M5(hnp:fn.np=C.np)(hT:∀ t ft,E.ty t=some ft→dh E.G C.P E.ty t ft=true){σ σ1:St E.G}{F:Nat→List Nat}(h:Ok C σ a w S F V){t:TypeId}{dst:Option Tmp}{parts:Array (Nat×Operand)}{r:bX E}
  (hm:(vu (E:=E) fn (E.ty t) dst parts.toList).run Fa σ=some (r,σ1)) :
  ∃ v w',(Instr.build t (parts.map fun x=>(x.1,a.eval x.2))).run C.P w = .ok v w'∧(∀ x rest u,parts.toList=(0,x)::rest→(a.eval x).cells.toList=[u]→v.cells[0]? = some u)∧∃ S' F' V',Ok C σ1 a w' S' F' V'∧b9 S' w' σ1.slot V' r v:=by
 unfold vu at hm
 split at hm
 ·rename_i n d ht
  obtain⟨hpo,hm2⟩:=aC hm
  obtain⟨v,σ2,h1,h2⟩:=az hm2
  obtain⟨inf,z,hty⟩:=TyOK.of (hT t _ ht)
  obtain⟨fs,hu,hfs⟩:=hty.desc
  have hzr:∀ o,RepFs (fun t y=>RepE (G:=E.G) S w o t y) (E.G.fs n) (iH E.G.zero (E.G.fs n)) z.cells.toList []:=by
   intro o
   have:=repE_nm.1 (hty.zrep S w o)
   have e:E.G.un n (cP E.G.zero (.nm n))=iH E.G.zero (E.G.fs n):=E.G.un_zero n
   rw[e]at this;exact this
  have hzl:z.cells.toList.length=FT.szs E.G.sz (E.G.fs n):=by
   have:=(hty.zrep S w true).len
   rw[this];exact E.G.sz_eq n
  obtain⟨f1,f2⟩:=K0 (G:=E.G) (E.G.fs n) z.cells.toList hzl
  obtain⟨F1,segs,Fd,k1,k2,k3,k4,k5,k6,k7,k8⟩:=UI (C:=C) (a:=a) parts.toList (fun k=>((gB E.G (E.G.fs n) z.cells.toList)[k]?).getD []) (E.G.fs n) 0 σ σ2 F [] v h Loose.nil (fun k t' hk o=>by
   obtain⟨c,e1,e2⟩:=K1 (G:=E.G) _ _ _ (hzr o) rfl k t' hk
   simp only[Nat.zero_add,e1,Option.getD_some]
   exact e2) h1
  obtain⟨p1,p2⟩:=I8 _ _ hpo
  have hsz:∀ q∈(parts.map fun x=>(x.1,a.eval x.2)).toList,((E.G.fs n).map fun t=>t.sz E.G.sz)[q.1]? = some q.2.cells.size:=by
   intro q hq
   rw[Array.toList_map]at hq
   obtain⟨x,hx,rfl⟩:=List.mem_map.1 hq
   have hlt:=p1 x hx
   have hk:=k7 x.1 hlt
   rw[Nat.zero_add]at hk
   have hfind:∃ q',parts.toList.find? (fun q=>Nat.beq q.1 x.1)=some q':=by
    cases hf:parts.toList.find? (fun q=>Nat.beq q.1 x.1) with
    | some q'=>exact⟨q',rfl⟩
    | none=>exact absurd (List.find?_eq_none.1 hf x hx) (by simp)
   obtain⟨q',hf⟩:=hfind
   have hfs:=List.find?_some hf
   have he:q'=x:=p2 q' (List.mem_of_find?_eq_some hf) x hx (cn hfs)
   rw[hf,he]at hk
   have:=congrArg (fun l=>l[x.1]?) k8
   simp only[List.getElem?_map,hk,Option.map_some]at this
   simp only[List.getElem?_map,← this,aJ]
  obtain⟨cells,c1,c2⟩:=G4 _ (parts.map fun x=>(x.1,a.eval x.2)).toList (gB E.G (E.G.fs n) z.cells.toList) z.cells f1.symm f2 hsz
  have hall:mP (gB E.G (E.G.fs n) z.cells.toList) (parts.map fun x=>(x.1,a.eval x.2)).toList=segs:=by
   apply List.ext_getElem?
   intro k
   have hl0:(gB E.G (E.G.fs n) z.cells.toList).length=(E.G.fs n).length:=by
    have:=congrArg List.length f2;simpa using this
   by_cases hk:k<(E.G.fs n).length
   ·rw[K3 _ _ k (by rw[hl0];exact hk) (by
     intro q hq q' hq' e
     rw[Array.toList_map]at hq hq'
     obtain⟨x,hx,rfl⟩:=List.mem_map.1 hq
     obtain⟨x',hx',rfl⟩:=List.mem_map.1 hq'
     rw[p2 x hx x' hx' e])]
    rw[k7 k hk,Nat.zero_add,Array.toList_map,G5]
    cases hf:parts.toList.find? (fun q=>Nat.beq q.1 k) with
    | some q=>rfl
    | none =>
     simp only[Option.map_none]
     have:k<(gB E.G (E.G.fs n) z.cells.toList).length:=by rw[hl0];exact hk
     simp[this]
   ·rw[List.getElem?_eq_none (by rw[K4,hl0];omega),List.getElem?_eq_none (by rw[k6];omega)]
  rw[hall]at c2
  have hbuilt:C.P.built t (parts.map fun x=>(x.1,a.eval x.2)).toList=some cells:=by
   unfold Program.built
   simp only[hty.info,hu,hty.zero,GY _ _ _ hfs]
   exact c1
  have hrun:=run_build (P:=C.P) w t _ cells hbuilt
  have hag:∃ cs,Value.agg cells = .agg cs:=⟨_,rfl⟩
  have hsh:Shaped v.b (.agg cells):=by
   obtain⟨x,y,hb⟩:=k5
   rcases hb with hb | hb <;> rw[hb] <;> exact⟨_,rfl⟩
  have hcs:(Value.agg cells).cells.toList=segs.flatten:=c2
  obtain⟨S',F2,V2,z1,z2,z3,z4⟩:=LL (L:=[]) hnp k1 k2 (d:=normal v n) (v:=.agg cells) (by rw[hcs];exact Ua k3) (Ub hsh hag) h2
  refine⟨_,w,hrun,fun x rest u hparts hu=>?_,S',F2,V2,z2,z3⟩
  have h0:0<(E.G.fs n).length:=p1 (0,x) (by rw[hparts];exact aH ..)
  have hk:=k7 0 h0
  rw[Nat.zero_add,hparts,List.find?_cons_of_pos (by rfl)]at hk
  simp only[hu]at hk
  have:(Value.agg cells).cells[0]? = (Value.agg cells).cells.toList[0]?:=Array.getElem?_toList.symm
  rw[this,hcs]
  cases segs with
  | nil=>cases hk
  | cons s0 ss =>
   simp only[List.getElem?_cons_zero,Option.some.injEq]at hk
   rw[hk];rfl
 ·exact aA (F:=Fa) hm
theorem ZU{G:Gam}{S:Nat→Prop}{w:World}{o:Bool}:∀ {t:FT} {c:Value},Fh t c=true→RepE (G:=G) S w o t (cP G.zero t) [c] []:=by
 intro t c h
 unfold Fh at h
 split at h
 ·rename_i k k' n
  simp only[aD,beq_iff_eq]at h
  obtain⟨rfl,rfl⟩:=h
  exact repE_int.2 ⟨rfl,by cases k <;> rfl,rfl⟩
 ·rename_i b
  cases b with
  | true=>cases h
  | false=>exact repE_bool.2 ⟨rfl,rfl⟩
 ·rename_i s
  have hs:s.size=0:=cn h
  refine repE_str.2 ⟨s,rfl,?_,rfl,by omega⟩
  have hl:=fR s
  rw[hs]at hl
  exact(ba.1 hl).symm
 ·rename_i e off cap
  simp only[aD]at h
  obtain rfl:=cn h.1
  obtain rfl:=cn h.2
  exact repE_sl.2 (.inl ⟨lM o,rfl,rfl⟩)
 ·cases h
theorem Me{G:Gam}{S:Nat→Prop}{w:World}{o:Bool}:∀ (ts:List FT) (cs:List Value),uS ts cs=true→RepFs (fun t y=>RepE (G:=G) S w o t y) ts (iH G.zero ts) cs []
 | [],[],_=>⟨rfl,rfl⟩
 | [],_::_,h=>by cases h
 | _::_,[],h=>by cases h
 | t::ts,c::cs,h=>by
  unfold uS at h
  simp only[aD]at h
  exact⟨[c],cs,[],[],rfl,rfl,ZU h.1,Me ts cs h.2⟩
theorem Qk{G:Gam}{S:Nat→Prop}{w:World}{o:Bool}{e:FT}{x:Operand}(a:Act)(h:isZ G e x=true):RepE (G:=G) S w o e (cP G.zero e) (a.eval x).cells.toList []:=by
 unfold isZ at h
 split at h
 ·rename_i n cs
  have e1:G.un n (cP G.zero (.nm n))=iH G.zero (G.fs n):=G.un_zero n
  refine repE_nm.2 ?_
  rw[e1]
  exact Me _ _ h
 ·cases h
theorem vU{o:Bool}{e:FT}:∀ (n:Nat) (parts:List (Nat×Operand)) (σ σ1:St E.G) (F:Nat→List Nat) (L:List Nat) (l:List (J E.G.T e)),parts.length=n→Ok C σ a w S F V→Loose C w S F L→(kx (E:=E) o e n parts).run Fa σ=some (l,σ1) →
  ∃ F1 Fd,Ok C σ1 a w S F1 V∧Loose C w S F1 (Fd++L)∧RepL (RepE (G:=E.G) S w o e) l ((parts.map fun q=>(a.eval q.2).cells.toList).flatten) Fd∧l.length=n∧∀ q∈parts,(a.eval q.2).cells.size=e.sz E.G.sz
 | 0,[],σ,σ1,F,L,l,_,h,hL,hm=>by
  unfold kx at hm
  obtain⟨rfl,rfl⟩:=aB (F:=Fa) hm
  exact⟨F,[],h,hL,⟨rfl,rfl⟩,rfl,fun _ h=>by cases h⟩
 | 0,q::ps,σ,σ1,F,L,l,hl,h,hL,hm=>by simp at hl
 | n+1,[],σ,σ1,F,L,l,hl,h,hL,hm=>by simp at hl
 | n+1,(i,x)::ps,σ,σ1,F,L,l,hl,h,hL,hm=>by
  unfold kx at hm
  cases hz:isZ E.G e x with
  | true =>
  rw[hz]at hm
  obtain⟨ys,σ4,h5,h6⟩:=az (show M.run Fa ((kx (E:=E) o e n ps).bind fun ys=>.ret (cP E.G.zero e::ys)) σ=some (l,σ1)from hm)
  obtain⟨rfl,rfl⟩:=aB (F:=Fa) h6
  obtain⟨F2,Fd2,k1,k2,k3,k4,k5⟩:=vU n ps _ _ F L ys (by simpa using hl) h hL h5
  have hy':RepE S w o e (cP E.G.zero e) (a.eval x).cells.toList []:=Qk a hz
  refine⟨F2,Fd2,k1,k2,⟨_,_,[],Fd2,by rw[bj,List.flatten_cons],rfl,hy',k3⟩,by simp[k4],fun q hq=>?_⟩
  rcases aO.1 hq with rfl | hq
  ·rw[← aJ];exact hy'.len
  ·exact k5 q hq
  | false =>
  rw[hz]at hm
  obtain⟨p,σ2,h1,h2⟩:=az (show M.run Fa ((opd x).bind fun p=>(eK (some e) p).bind fun d=>need (o||d.b.cp E.G) <| match coJ E.G o deep e d.b d.x with
   | some y=>(kx (E:=E) o e n ps).bind fun ys=>.ret (y::ys)
   | none=>.fail) σ=some (l,σ1)from hm)
  obtain⟨rfl,hp⟩:=cY h h1
  obtain⟨d,σ3,h3,h4⟩:=az h2
  obtain⟨F1,g1,g2,g3,Fd,g4,g5⟩:=jk h hL hp h3
  obtain⟨hcp,h4⟩:=aC h4
  split at h4
  ·rename_i y hy
   obtain⟨ys,σ4,h5,h6⟩:=az h4
   obtain⟨rfl,rfl⟩:=aB (F:=Fa) h6
   obtain⟨F2,Fd2,k1,k2,k3,k4,k5⟩:=vU n ps _ _ F1 (Fd++L) ys (by simpa using hl) g1 g5 h5
   have hy':RepE S w o e y (a.eval x).cells.toList Fd:=by
    cases o with
    | true=>exact gt (S':=S) hy g4 (fun b hb=>hb) (fun h=>by cases h)
    | false =>
     obtain rfl:=RepB.cp (by simpa using hcp) g4
     exact gt (S':=S) hy g4 (fun b hb=>hb) (fun _ b hb=>by cases hb)
   refine⟨F2,Fd++Fd2,k1,?_,⟨_,_,Fd,Fd2,by rw[bj,List.flatten_cons],rfl,hy',k3⟩,by simp[k4],fun q hq=>?_⟩
   ·have hm:∀ x,x∈(Fd++Fd2)++L→x∈Fd2++(Fd++L):=by
     intro x hx
     simp only[aE]at hx ⊢
     rcases hx with (hx | hx) | hx
     ·exact .inr (.inl hx)
     ·exact .inl hx
     ·exact .inr (.inr hx)
    refine⟨?_,fun s x hx hx'=>k2.apart s x hx (hm x hx'),fun x hx=>k2.notS x (hm x hx),fun x hx=>k2.bnd x (hm x hx),fun x hx=>k2.fromF x (hm x hx)⟩
    have h1:=aF.1 k2.nd
    have h2:=aF.1 h1.2.1
    rw[List.append_assoc]
    refine aF.2 ⟨h2.1,aF.2 ⟨h1.1,h2.2.1,fun x hx y hy e=>h1.2.2 x hx y (ay _ hy) e⟩,fun x hx y hy e=>?_⟩
    rcases aE.1 hy with hy | hy
    ·exact h1.2.2 y hy x (ax _ hx) e.symm
    ·exact h2.2.2 x hx y hy e
   ·rcases aO.1 hq with rfl | hq
    ·rw[← aJ];exact hy'.len
    ·exact k5 q hq
  ·exact aA (F:=Fa) h4
theorem K2(a:Act):∀ (ps:List (Nat×Operand)) (i:Nat),um i ps=true→ps.map (fun x=>(x.1,a.eval x.2))=((ps.map fun q=>a.eval q.2).zipIdx i).map fun x=>(x.2,x.1)
 | [],_,_=>rfl
 | (j,x)::ps,i,h=>by
  simp only[um,aD]at h
  have:=cn h.1
  subst this
  simp only[bj,List.zipIdx_cons]
  rw[K2 a ps (i+1) h.2]
theorem M4(hnp:fn.np=C.np)(hT:∀ t ft,E.ty t=some ft→dh E.G C.P E.ty t ft=true){σ σ1:St E.G}{F:Nat→List Nat}(h:Ok C σ a w S F V){t:TypeId}{dst:Option Tmp}{len:Nat}{parts:Array (Nat×Operand)}{r:bX E}
  (hm:(vv (E:=E) fn (E.ty t) dst len parts.toList).run Fa σ=some (r,σ1)):Res C a σ1 r (Instr.buildSlice t len (parts.map fun x=>(x.1,a.eval x.2))) w:=by
 unfold vv at hm
 split at hm
 ·rename_i e d ht
  obtain⟨hpo,hm2⟩:=aC hm
  simp only[aD]at hpo
  obtain⟨⟨⟨hp1,hp2⟩,hp3⟩,hp4⟩:=hpo
  have hplen:=cn hp2
  have hlen:=aG hp3
  have hcap:=aG hp4
  obtain⟨l,σ2,h1,h2⟩:=az hm2
  obtain⟨inf,z,hty⟩:=TyOK.of (hT t _ ht)
  obtain⟨et,hu,he⟩:=hty.desc
  obtain⟨inf',z',hty'⟩:=TyOK.of (hT et _ he)
  generalize ho:(!(Nat.beq (fn.ann d) 6||Nat.beq (fn.ann d) 7))=o at h1
  obtain⟨F1,Fd,k1,k2,k3,k4,k5⟩:=vU len parts.toList σ σ2 F [] l hplen h Loose.nil h1
  rw[aL]at k2
  have hzsz:z'.cells.size=e.sz E.G.sz:=by rw[← aJ];exact(hty'.zrep S w true).len
  let cells:Array Value:=((parts.toList.map fun q=>(a.eval q.2).cells.toList).flatten).toArray
  have hrun:(Instr.buildSlice t len (parts.map fun x=>(x.1,a.eval x.2))).run C.P w = .ok (.slice (some ⟨w.heap.size,0,none⟩) len len) (w.alloc (.cells cells et)):=by
   have hpl:(parts.map fun x=>(x.1,a.eval x.2)).toList=((parts.toList.map fun q=>a.eval q.2).zipIdx 0).map fun x=>(x.2,x.1):=by
    rw[Array.toList_map];exact K2 a _ 0 hp1
   have hfm:((parts.toList.map fun q=>a.eval q.2).flatMap fun v=>v.cells.toList).toArray=cells:=by
    show _=((parts.toList.map fun q=>(a.eval q.2).cells.toList).flatten).toArray
    rw[List.flatMap_def,List.map_map];rfl
   by_cases h0:len=0
   ·subst h0
    have hnil:parts.toList=[]:=List.eq_nil_of_length_eq_zero hplen
    have hpe:parts = #[]:=Array.toList_eq_nil_iff.1 hnil
    have hce:cells = #[]:=by show((parts.toList.map _).flatten).toArray=_;rw[hnil];rfl
    have e0:∀ f:Nat→Value,Array.map f (Array.range 0) = #[]:=fun f=>by rw[Array.range_zero'];exact Array.map_empty
    rw[hce,hpe]
    simp[Instr.buildSlice,run_underlying hu,hty'.run_sizeOf,e0,Instr.fill,newRow]
   ·have hpos:=hty'.pos
    refine run_buildSlice (P:=C.P) w t et len _ cells inf' z' hu hty'.info hty'.zero (by rw[hty'.size];have:(2:Nat) ^ 24=16777216:=rfl;omega) (by rw[hty'.size];exact fun h=>(Nat.mul_eq_zero.1 h).elim h0 fun h=>by omega) ?_
    rw[hpl,← hfm,hty'.size]
    refine Great.fill_whole hpos _ _ (fun v hv=>?_) (by simp[hplen])
    obtain⟨q,hq,rfl⟩:=List.mem_map.1 hv
    exact k5 q hq
  have hG:=Grows.alloc w (.cells cells et)
  have hok:=k1.grow' hG
  have hLn:=xp k1 k2 (w.alloc (.cells cells et)) (by simp)
  have hcl:cells.toList=(parts.toList.map fun q=>(a.eval q.2).cells.toList).flatten:=rfl
  have hlcl:cells.toList.length=l.length*e.sz E.G.sz:=by rw[hcl];exact RepL.len (n:=e.sz E.G.sz) _ _ _ (fun x _ c G h=>h.len) k3
  have hrep:jq (G:=E.G) S (w.alloc (.cells cells et)) o e l [.slice (some ⟨w.heap.size,0,none⟩) len len] (w.heap.size::Fd):=by
   refine .inr ⟨w.heap.size,len,cells,et,(0,0),Fd,by rw[k4],by omega,heap_alloc_new ..,?_,?_⟩
   ·rw[← hlcl,List.take_length,hcl]
    exact RepL.mono _ _ _ (fun x _ c G hG' hr=>hr.frame (fun b hb=>⟨hb,hG.old b (k1.bndS b hb)⟩) (fun b hb=>hG.old b (k2.bnd b (hG' b hb)))) k3
   ·exact⟨⟨.inl rfl,fun _=>rfl⟩,by rw[← aJ,hlcl,k4],by omega,rfl⟩
  cases hann:Nat.beq (fn.ann d) 1||Nat.beq (fn.ann d) 6 with
  | true =>
   rw[hann]at h2
   obtain⟨rfl,rfl⟩:=aB (F:=Fa) h2
   obtain⟨g1,g2⟩:=hok.share (Fd:=w.heap.size::Fd) (L:=[]) (by rw[aL];exact hLn)
   exact⟨_,_,hrun,_,F1,V,g1,Jq hrep (fun _ h=>.inl h) (fun b hb=>.inr hb),fun cs h=>(by cases h),rfl⟩
  | false =>
   rw[hann]at h2
   have ho':o = !Nat.beq (fn.ann d) 7:=by
    rw[← ho];simp only[Bool.or_eq_false_iff]at hann;rw[hann.2,Bool.false_or]
   rw[← ho']at h2
   simp only[cond_false]at h2
   obtain⟨g,σ3,h3,h4⟩:=az h2
   obtain⟨rfl,rfl⟩:=aB (F:=Fa) h4
   obtain⟨F',V',m1,m2,m3⟩:=qf hnp hok (L:=[]) (Fd:=w.heap.size::Fd) (by rw[aL];exact hLn) (d:=spD o e l) (v:=.slice (some ⟨w.heap.size,0,none⟩) len len) (repO_spD.2 hrep) (Lj fun cs h=>(by cases h)) h3
   exact⟨_,_,hrun,S,F',V',m1,m2⟩
 ·exact aA (F:=Fa) hm
end
end
section
section
variable {G:Gam}
def dw(S:Nat→Prop)(w:World)(box:Bool)(d:DV G.T)(v:Value)(F:List Nat):Prop :=
 if box=true then ∃ b c E F',v = .pointer (some ⟨b,0,none⟩)∧w.heap[b]? = some (.cells c E (0,0))∧F=b::F'∧RepB S w d.b d.x c.toList F'
 else RepB S w d.b d.x v.cells.toList F∧Shaped d.b v
theorem j5{S:Nat→Prop}{w:World}{sl:Nat→Slot G}{V:Nat→Value}{x:Slot G}{v:Value}{F:List Nat}{d:DV G.T}(hd:x.cont = .data d):cO S w sl V x v F↔dw S w x.box d v F:=by
 unfold cO dw
 rw[hd]
def m9(S:Nat→Prop)(w:World)(pm:PM)(b:BT)(v:Value)(d:DV G.T)(F:List Nat):Prop :=
 ∃ x:B G.T b,d=⟨b,x⟩∧(match pm with
  | .val=>RepB S w b x v.cells.toList []∧Shaped b v∧b.cp G=true∧F=[]
  | .own | .io=>RepB S w b x v.cells.toList F∧Shaped b v
  | .ptr _=>∃ blk c E F',v = .pointer (some ⟨blk,0,none⟩)∧w.heap[blk]? = some (.cells c E (0,0))∧F=blk::F'∧RepB S w b x c.toList F')
def PM.back:PM→Bool
 | .io | .ptr _=>true
 | _=>false
def PM.out:PM→BT→BT
 | .ptr o,_=>o
 | _,b=>b
def fe(S:Nat→Prop)(w:World):List (PM×BT×Value)→List (DV G.T)→List Nat→Prop
 | [],ds,F=>ds=[]∧F=[]
 | it::its,ds,F=>∃ d ds' F1 F2,ds=d::ds'∧F=F1++F2∧m9 S w it.1 it.2.1 it.2.2 d F1∧fe S w its ds' F2
def ItemsOut(S:Nat→Prop)(w:World):List (PM×BT×Value)→List (DV G.T)→List Nat→Prop
 | [],ds,F=>ds=[]∧F=[]
 | it::its,ds,F=>if it.1.back=true then ∃ d ds' F1 F2,ds=d::ds'∧F=F1++F2∧m9 S w it.1 (it.1.out it.2.1) it.2.2 d F1∧ItemsOut S w its ds' F2 else ItemsOut S w its ds F
def eX:List BT→List Value→List (PM×BT×Value)
 | b::bs,v::vs=>(.ptr b,b,v)::eX bs vs
 | _,_=>[]
def Fm:Mode→Value→List (PM×BT×Value)→Prop
 | .val b,v,its=>its=[(.val,b,v)]
 | .own b,v,its=>its=[(.own,b,v)]
 | .io b,v,its=>its=[(.io,b,v)]
 | .ptr b o,v,its=>its=[(.ptr o,b,v)]
 | .clo f bs,v,its=>∃ ws:Array Value,v = .func (.func f) #[] ws∧ws.toList.length=bs.length∧its=eX bs ws.toList
 | .ref b o b' o',v,its=>∃ u,its=[(.ptr o,b,v),(.ptr o',b',u)]
def eO:List Mode→List Value→List (PM×BT×Value)→Prop
 | [],vs,its=>vs=[]∧its=[]
 | m::ms,vs,its=>∃ v vs' i1 i2,vs=v::vs'∧its=i1++i2∧Fm m v i1∧eO ms vs' i2
def lE(w:World)(v u:Value):Prop:=∃ b c E fz,v = .pointer (some ⟨b,0,none⟩)∧w.heap[b]? = some (.cells c E fz)∧c[0]? = some u
def dR(w:World):List Mode→List (PM×BT×Value)→Prop
 | [],_=>True
 | .ref _ _ _ _::ms,its=>(∃ a c its',its=a::c::its'∧lE w a.2.2 c.2.2)∧dR w ms (its.drop 2)
 | .clo _ bs::ms,its=>dR w ms (its.drop bs.length)
 | .val _::ms,its=>dR w ms (its.drop 1)
 | .own _::ms,its=>dR w ms (its.drop 1)
 | .io _::ms,its=>dR w ms (its.drop 1)
 | .ptr _ _::ms,its=>dR w ms (its.drop 1)
theorem qR:∀ (bs:List BT) (ws:List Value),ws.length=bs.length→(eX bs ws).length=bs.length
 | [],[],_=>rfl
 | b::bs,v::ws,h=>by simp only[eX,aW];rw[qR bs ws (by simpa using h)]
 | [],_::_,h=>by simp at h
 | _::_,[],h=>by simp at h
def RetOK(S:Nat→Prop)(w:World)(d:DV G.T)(v:Value)(F:List Nat):Prop :=
 if dT d.b=true then ∃ blk c E F',v = .pointer (some ⟨blk,0,none⟩)∧w.heap[blk]? = some (.cells c E (0,0))∧F=blk::F'∧RepB S w (lq d).b (lq d).x c.toList F'
 else RepB S w d.b d.x v.cells.toList F∧Shaped d.b v∧(iu d.b=true→v = .nilIface)
def RetsOK(S:Nat→Prop)(w:World):List (DV G.T)→List Value→List Nat→Prop
 | [],vs,F=>vs=[]∧F=[]
 | d::ds,vs,F=>∃ v vs' F1 F2,vs=v::vs'∧F=F1++F2∧RetOK S w d v F1∧RetsOK S w ds vs' F2
def qh:List Value→Value
 | [v]=>v
 | vs=>.tuple vs.toArray
def mZ(ms:List Mode)(nres:Nat)(vits:List (PM×BT×Value))(ys:List (DV G.T))(S0:Nat→Prop)(F0:List Nat)(w:World)(v:Value)(w':World):Prop :=
 ∃ (S':Nat→Prop) (vs:List Value) (Fr Fb:List Nat),v=qh vs∧RetsOK S' w' (ys.take nres) vs Fr∧ItemsOut S' w' vits (ys.drop nres) Fb∧(Fr++Fb).Nodup ∧
  (∀ b∈Fr++Fb,¬ S' b∧b<w'.heap.size∧(b∈F0∨w.heap.size≤b))∧(∀ b,S0 b→S' b)∧(∀ b,S' b→b<w'.heap.size∧(S0 b∨b∈F0∨w.heap.size≤b)) ∧
  (∀ b,b<w.heap.size→b∉F0→w'.heap[b]? = w.heap[b]?)∧w.heap.size≤w'.heap.size∧w'.os=w.os∧w'.tape=w.tape∧w'.output=w.output∧dR w' ms vits
end
def Does(P:Program)(f:FuncId)(args:Array Value)(w:World)(R:Value→World→Prop):Prop :=
 ((callFunc f args).run P w = .ok (.enter f args) w∧Calls P f args w fun e w'=>∃ v,e = .returned v∧R v w')∨∃ v w',(callFunc f args).run P w = .ok (.value v) w'∧R v w'
theorem Does.mono{P:Program}{f:FuncId}{args:Array Value}{w:World}{R R':Value→World→Prop}(h:Does P f args w R)(hr:∀ v w',R v w'→R' v w'):Does P f args w R':=by
 rcases h with ⟨h1,h2⟩ | ⟨v,w',h1,h2⟩
 ·exact .inl ⟨h1,h2.mono fun e w' ⟨v,h3,h4⟩=>⟨v,h3,hr _ _ h4⟩⟩
 ·exact .inr ⟨v,w',h1,hr _ _ h2⟩
def fV:List Mode→List BT
 | []=>[]
 | m::ms=>m.inp++fV ms
def Fp(P:Program)(w:World)(r:String×IntKind×List Int)(g:Nat):Prop:=if r.2.2.isEmpty=true then ∃ m,w.cell? ⟨g,0,none⟩=some (.int r.2.1 m)else Lib.TabIs P w r.1 r.2.1 r.2.2
def Laid(P:Program)(l:List (String×IntKind×List Int))(S:Nat→Prop)(w:World):Prop:=∀ r∈l,∃ g,P.globalNamed r.1=some g∧S g∧Fp P w r g
theorem Laid.same{P:Program}{l:List (String×IntKind×List Int)}{S S':Nat→Prop}{w w':World}(h:Laid P l S w)(hS:∀ b,S b→S' b)(hw:∀ b,S b→w'.heap[b]? = w.heap[b]?):Laid P l S' w':=fun r hr=>by
 obtain⟨g,h1,h2,h3⟩:=h r hr
 refine⟨g,h1,hS g h2,?_⟩
 unfold Fp at h3 ⊢
 by_cases he:r.2.2.isEmpty=true
 ·rw[bw he]at h3 ⊢
  obtain⟨m,hm⟩:=h3
  refine⟨m,?_⟩
  unfold World.cell? at hm ⊢
  rw[hw g h2]
  exact hm
 rw[bz he]at h3 ⊢
 unfold Lib.TabIs World.var? at h3 ⊢
 rw[h1,Option.bind_some]at h3 ⊢
 rw[hw g h2]
 exact h3
def qY(E:Env)(P:Program)(Fa:cr E.Z):Prop:=∀ f cs k ms nres,E.ent f cs=some (k,ms,nres)→E.Z.inp k=fV ms∧∀ x y,Fa k x=some y →
 ∀ (w:World) (S0:Nat→Prop) (F0:List Nat) (vs:List Value) (vits:List (PM×BT×Value)),eO ms vs vits→dR w ms vits→fe (G:=E.G) S0 w vits (cL (E.Z.inp k) x) F0→F0.Nodup→(∀ b∈F0,¬ S0 b∧b<w.heap.size)→(∀ b,S0 b→b<w.heap.size)→Laid P E.tabs S0 w →
  Does P f vs.toArray w (mZ (G:=E.G) ms nres vits (cL (E.Z.out k) y) S0 F0 w)
section
variable {E:Env} {Fa:cr E.Z} {C:Ctx} {σ σ1:St E.G} {a:Act} {w:World} {S:Nat→Prop} {F:Nat→List Nat} {V:Nat→Value} {L:List Nat} {fn:Fn}
def Rel(S:Nat→Prop)(w:World)(sl:Nat→Slot E.Z.G)(V:Nat→Value):List (Itm E.Z.G)→List (PM×BT×Value)→Prop
 | [],vits=>vits=[]
 | it::its,vits=>∃ v r,vits=(it.pm,it.b,v)::r∧b9 S w sl V it.p v∧Rel S w sl V its r
theorem Rel.app{sl:Nat→Slot E.Z.G}:∀ {i1:List (Itm E.Z.G)} {v1:List (PM×BT×Value)} {i2:List (Itm E.Z.G)} {v2:List (PM×BT×Value)},Rel S w sl V i1 v1→Rel S w sl V i2 v2→Rel S w sl V (i1++i2) (v1++v2)
 | [],_,_,_,h1,h2=>by rw[show _=[]from h1];exact h2
 | it::i1,_,_,_,⟨v,r,h1,h3,h4⟩,h2=>⟨v,_,by rw[h1];rfl,h3,Rel.app h4 h2⟩
theorem Mj{sl:Nat→Slot E.Z.G}:∀ {bs:List BT} {ps:List (bX E)} {its:List (Itm E.Z.G)} {vs:List Value},qQ bs ps=some its→PinsOK S w sl V ps vs→vs.length=bs.length∧Rel S w sl V its (eX bs vs)
 | [],[],its,vs,h,hp=>by
  cases h
  have:vs=[]:=hp
  subst this
  exact⟨rfl,rfl⟩
 | b::bs,p::ps,its,vs,h,hp=>by
  obtain⟨v,vs',h1,h2,h3⟩:=hp
  subst h1
  unfold qQ at h
  cases hz:qQ bs ps with
  | none=>rw[hz]at h;cases h
  | some l =>
   rw[hz]at h
   cases h
   obtain⟨k1,k2⟩:=Mj hz h3
   exact⟨by simp[k1],v,_,rfl,h2,k2⟩
 | [],_::_,its,vs,h,hp=>by cases h
 | _::_,[],its,vs,h,hp=>by cases h
def vc(S:Nat→Prop)(w:World)(sl:Nat→Slot E.Z.G)(V:Nat→Value)(m:Mode)(p:bX E)(v:Value)(q:bX E):Prop :=
 ∀ b o b' o',m = .ref b o b' o'→∃ s g s' g',p = .ptr s [] 0 g∧q = .ptr s' [] 0 g'∧v=V s∧b9 S w sl V q (V s')∧lE w v (V s')∧∃ b,V s' = .pointer (some ⟨b,0,none⟩)
def vd(S:Nat→Prop)(w:World)(sl:Nat→Slot E.Z.G)(V:Nat→Value):List Mode→List (bX E)→List Value→List (bX E)→Prop
 | m::ms,p::ps,v::vs,q::qs=>vc S w sl V m p v q∧vd S w sl V ms ps vs qs
 | _,_,_,_=>True
def vi(V:Nat→Value):List Mode→List (bX E)→List (bX E)→List (PM×BT×Value)→Prop
 | m::ms,p::ps,q::qs,its=>(∀ b o b' o',m = .ref b o b' o'→∃ s g s' g' a c its',p = .ptr s [] 0 g∧q = .ptr s' [] 0 g'∧its=a::c::its'∧a.2.2=V s∧c.2.2=V s'∧∃ b,V s' = .pointer (some ⟨b,0,none⟩))∧vi V ms ps qs (its.drop m.inp.length)
 | _,_,_,_=>True
theorem Qe(h:Ok C σ a w S F V){m:Mode}{p q:bX E}{v:Value}(hp:b9 S w σ.slot V p v)(hm:(sg (E:=E) m p).run Fa σ=some (q,σ1)):σ1=σ∧vc S w σ.slot V m p v q:=by
 by_cases hr:∃ b o b' o',m = .ref b o b' o'
 rotate_left
 ·have:sg (E:=E) m p = .ret .no:=by cases m <;> first | rfl | exact absurd ⟨_,_,_,_,rfl⟩ hr
  rw[this]at hm
  obtain⟨rfl,rfl⟩:=aB (F:=Fa) hm
  exact⟨rfl,fun b o b' o' e=>absurd ⟨b,o,b',o',e⟩ hr⟩
 obtain⟨b1,o1,b1',o1',rfl⟩:=hr
 unfold sg at hm
 split at hm
 ·rename_i s g _
  rw[M.run_getP]at hm
  split at hm
  ·rename_i s0 gs s' g' hq
   rw[M.run_getS,M.run_getS]at hm
   obtain⟨hc,hm2⟩:=aC hm
   obtain⟨rfl,rfl⟩:=aB (F:=Fa) hm2
   simp only[aD]at hc
   obtain⟨c1,c2,c3,c4,c5,c6⟩:=hc
   have c1':=cn c1
   subst c1'
   have hw:=h.pins (wT s0)
   rw[hq]at hw
   obtain⟨w1,⟨w2,w3⟩,w4⟩:=hw
   have hb:=aG c6
   obtain⟨k1,bu,k2⟩:=w3 hb
   have hcell:=(w4 (cn c2) hb).2
   obtain⟨_,bb,hVb,hvb⟩:=hp.2.1 rfl (aG c4)
   unfold fd at hcell
   rw[bw c3]at hcell
   refine⟨rfl,fun _ _ _ _ _=>⟨s0,g,s',g',rfl,rfl,hvb.trans hVb.symm,⟨⟨w2,bu,0,k2⟩,fun _ _=>⟨k1,bu,k2,k2⟩,fun h=>by cases h⟩,?_,bu,k2⟩⟩
   obtain⟨b,c,E0,fz,e1,e2,e3⟩:=hcell
   exact⟨b,c,E0,fz,(hvb.trans hVb.symm).trans e1,e2,e3⟩
  ·exact aA (F:=Fa) hm
 ·exact aA (F:=Fa) hm
 ·first
  | (rename_i hx _;exact(hx _ _ _ _ rfl).elim)
  | (rename_i hx;exact(hx _ _ _ _ rfl).elim)
  | (rename_i _ hx _;exact(hx _ _ _ _ rfl).elim)
theorem Ig(h:Ok C σ a w S F V):∀ (ms:List Mode) (ps qs:List (bX E)) (vs:List Value) (σ1:St E.G),PinsOK S w σ.slot V ps vs→(wY (E:=E) ms ps).run Fa σ=some (qs,σ1)→σ1=σ∧vd S w σ.slot V ms ps vs qs
 | m::ms,p::ps,qs,vs,σ1,hp,hm=>by
  obtain⟨v,vs',rfl,hp1,hp2⟩:=hp
  obtain⟨q,σ2,h1,h2⟩:=az hm
  obtain⟨e1,k1⟩:=Qe h hp1 h1
  rw[e1]at h2
  obtain⟨qs',σ3,h3,h4⟩:=az h2
  obtain⟨e2,k2⟩:=Ig h ms ps qs' vs' σ3 hp2 h3
  obtain⟨e3,e4⟩:=aB (F:=Fa) h4
  subst e3
  exact⟨e4.trans e2,k1,k2⟩
 | [],ps,qs,vs,σ1,hp,hm=>by obtain⟨rfl,rfl⟩:=aB (F:=Fa) hm;exact⟨rfl,trivial⟩
 | m::ms,[],qs,vs,σ1,hp,hm=>by obtain⟨rfl,rfl⟩:=aB (F:=Fa) hm;exact⟨rfl,trivial⟩
theorem Ou{sl:Nat→Slot E.Z.G}{m:Mode}{p q:bX E}{its:List (Itm E.Z.G)}{v:Value}(h:rF m p q=some its)(hp:b9 S w sl V p v)(hq:vc S w sl V m p v q) :
  ∃ vits,Fm m v vits∧Rel S w sl V its vits∧vits.length=m.inp.length∧∀ b o b' o',m = .ref b o b' o'→∃ s g s' g' a c,p = .ptr s [] 0 g∧q = .ptr s' [] 0 g'∧vits=[a,c]∧a.2.2=V s∧c.2.2=V s'∧lE w a.2.2 c.2.2∧∃ b,V s' = .pointer (some ⟨b,0,none⟩):=by
 cases m with
 | val b=>cases h;exact⟨_,rfl,⟨v,[],rfl,hp,rfl⟩,rfl,fun _ _ _ _ e=>by cases e⟩
 | own b=>cases h;exact⟨_,rfl,⟨v,[],rfl,hp,rfl⟩,rfl,fun _ _ _ _ e=>by cases e⟩
 | io b=>cases h;exact⟨_,rfl,⟨v,[],rfl,hp,rfl⟩,rfl,fun _ _ _ _ e=>by cases e⟩
 | ptr b=>cases h;exact⟨_,rfl,⟨v,[],rfl,hp,rfl⟩,rfl,fun _ _ _ _ e=>by cases e⟩
 | clo f bs =>
  cases p with
  | clo f' cs =>
   simp only[rF]at h
   split at h
   ·rename_i hf
    have:=cn hf
    subst this
    obtain⟨ws,h1,h2⟩:=hp
    obtain⟨k1,k2⟩:=Mj h h2
    exact⟨_,⟨ws,h1,k1,rfl⟩,k2,qR bs _ k1,fun _ _ _ _ e=>by cases e⟩
   ·cases h
  | _=>cases h
 | ref b o b' o' =>
  cases h
  obtain⟨s,g,s',g',e1,e2,e3,e4,e5,e6⟩:=hq b o b' o' rfl
  exact⟨_,⟨V s',rfl⟩,⟨v,_,rfl,hp,V s',[],rfl,e4,rfl⟩,rfl,fun _ _ _ _ _=>⟨s,g,s',g',_,_,e1,e2,rfl,e3,rfl,e5,e6⟩⟩
theorem Iv{m:Mode}{ms:List Mode}{i1 i2:List (PM×BT×Value)}(hl:i1.length=m.inp.length)(h1:∀ b o b' o',m = .ref b o b' o'→∃ a c,i1=[a,c]∧lE w a.2.2 c.2.2)(h2:dR w ms i2):dR w (m::ms) (i1++i2):=by
 have hd:∀ n,n=m.inp.length→(i1++i2).drop n=i2:=fun n hn=>by rw[hn,← hl,List.drop_left]
 cases m with
 | val b=>show dR w ms ((i1++i2).drop 1);rw[hd 1 rfl];exact h2
 | own b=>show dR w ms ((i1++i2).drop 1);rw[hd 1 rfl];exact h2
 | io b=>show dR w ms ((i1++i2).drop 1);rw[hd 1 rfl];exact h2
 | ptr b o=>show dR w ms ((i1++i2).drop 1);rw[hd 1 rfl];exact h2
 | clo f bs=>show dR w ms ((i1++i2).drop bs.length);rw[hd bs.length rfl];exact h2
 | ref b o b' o' =>
  obtain⟨a,c,e1,e2⟩:=h1 b o b' o' rfl
  refine⟨⟨a,c,i2,by rw[e1];rfl,e2⟩,?_⟩
  rw[hd 2 rfl];exact h2
theorem G9{sl:Nat→Slot E.Z.G}:∀ {ms:List Mode} {ps qs:List (bX E)} {its:List (Itm E.Z.G)} {vs:List Value},nn ms ps qs=some its→PinsOK S w sl V ps vs→vd S w sl V ms ps vs qs→∃ vits,eO ms vs vits∧Rel S w sl V its vits∧dR w ms vits∧vi V ms ps qs vits
 | [],[],[],its,vs,h,hp,_=>by
  cases h
  have:vs=[]:=hp
  subst this
  exact⟨[],⟨rfl,rfl⟩,rfl,trivial,trivial⟩
 | m::ms,p::ps,q::qs,its,vs,h,hp,hi=>by
  obtain⟨v,vs',h1,h2,h3⟩:=hp
  subst h1
  unfold nn at h
  cases ha:rF m p q with
  | none=>rw[ha]at h;cases h
  | some i1 =>
   cases hr:nn ms ps qs with
   | none=>rw[ha,hr]at h;cases h
   | some i2 =>
    rw[ha,hr]at h
    cases h
    obtain⟨v1,k1,k2,k5,k6⟩:=Ou ha h2 hi.1
    obtain⟨v2,k3,k4,k7,k8⟩:=G9 hr h3 hi.2
    refine⟨v1++v2,⟨v,vs',v1,v2,rfl,rfl,k1,k3⟩,k2.app k4,Iv k5 (fun b o b' o' e=>?_) k7,fun b o b' o' e=>?_,?_⟩
    ·obtain⟨s,g,s',g',a,c,_,_,q3,_,_,q6,_⟩:=k6 b o b' o' e
     exact⟨a,c,q3,q6⟩
    ·obtain⟨s,g,s',g',a,c,q1,q2,q3,q4,q5,_,q7⟩:=k6 b o b' o' e
     exact⟨s,g,s',g',a,c,v2,q1,q2,by rw[q3];rfl,q4,q5,q7⟩
    ·rw[← k5,List.drop_left];exact k8
 | [],_::_,_,its,vs,h,hp,_=>by cases h
 | [],[],_::_,its,vs,h,hp,_=>by cases h
 | _::_,[],_,its,vs,h,hp,_=>by cases h
 | _::_,_::_,[],its,vs,h,hp,_=>by cases h
theorem Iw{m:Mode}{ms:List Mode}{its:List (PM×BT×Value)}(h:dR w (m::ms) its):dR w ms (its.drop m.inp.length)∧∀ b o b' o',m = .ref b o b' o'→∃ a c its',its=a::c::its'∧lE w a.2.2 c.2.2:=by
 cases m with
 | val b=>exact⟨h,fun _ _ _ _ e=>by cases e⟩
 | own b=>exact⟨h,fun _ _ _ _ e=>by cases e⟩
 | io b=>exact⟨h,fun _ _ _ _ e=>by cases e⟩
 | ptr b o=>exact⟨h,fun _ _ _ _ e=>by cases e⟩
 | clo f bs=>exact⟨h,fun _ _ _ _ e=>by cases e⟩
 | ref b o b' o'=>exact⟨h.2,fun _ _ _ _ _=>h.1⟩
theorem sN:∀ (ms:List Mode) (ps qs:List (bX E)) (its:List (PM×BT×Value)) (σ σ1:St E.G),Ok C σ a w S F V→dR w ms its→vi V ms ps qs its→(kU (E:=E) ms ps qs).run Fa σ=some ((),σ1)→Ok C σ1 a w S F V∧σ1.slot=σ.slot
 | [],ps,qs,its,σ,σ1,h,hl,hk,hm=>by
  obtain⟨_,rfl⟩:=aB (F:=Fa) hm
  exact⟨h,rfl⟩
 | m::ms,ps,qs,its,σ,σ1,h,hl,hk,hm=>by
  unfold kU at hm
  split at hm
  ·rename_i b o b' o' ms' s g ps' s' g' qs' e0
   cases e0
   obtain⟨hl1,hl2⟩:=Iw hl
   obtain⟨hk1,hk2⟩:=hk
   obtain⟨s2,g2,s2',g2',a0,c0,its',e1,e2,e3,e4,e5,bu,e6⟩:=hk1 b o b' o' rfl
   cases e1
   cases e2
   obtain⟨a1,c1,its2,e7,e8⟩:=hl2 b o b' o' rfl
   rw[e3]at e7
   cases e7
   rw[M.run_getS,M.run_getS]at hm
   cases hc:((σ.slot s).box&&(gw (σ.slot s).cont&&((σ.slot s').box&&(Nat.ble g' (σ.slot s').gen)))) with
   | false =>
    rw[hc]at hm
    exact sN ms ps' qs' _ σ σ1 h hl1 hk2 hm
   | true =>
    rw[hc]at hm
    rw[cond_true,M.run_setP]at hm
    simp only[aD]at hc
    obtain⟨c2,c3,c4,c5⟩:=hc
    refine sN ms ps' qs' _ (σ.setP (wT s) (.wrd s (σ.slot s).gen s' g')) σ1 (h.repin ?_) hl1 hk2 hm
    refine⟨aK _,⟨aG c5,fun _=>⟨c4,bu,e6⟩⟩,fun _ _=>⟨?_,?_⟩⟩
    ·unfold gw at c3
     split at c3
     ·rename_i d hd;exact⟨d,hd⟩
     ·cases c3
    ·unfold fd
     rw[bw c2,← e4,← e5]
     exact e8
  ·rename_i m' ms' p' ps' q' qs' hno e0
   cases e0
   exact sN ms ps' qs' _ σ σ1 h (Iw hl).1 hk.2 hm
  ·obtain⟨_,rfl⟩:=aB (F:=Fa) hm
   exact⟨h,rfl⟩
theorem PinsOK.app{sl:Nat→Slot E.Z.G}:∀ {ps:List (bX E)} {vs:List Value} {qs:List (bX E)} {us:List Value},PinsOK S w sl V ps vs→PinsOK S w sl V qs us→PinsOK S w sl V (ps++qs) (vs++us)
 | [],_,_,_,h,h'=>by rw[show _=[]from h];exact h'
 | p::ps,_,_,_,⟨v,vs',h1,h2,h3⟩,h'=>⟨v,_,by rw[h1];rfl,h2,PinsOK.app h3 h'⟩
def lG(S:Nat→Prop)(w:World):List Mode→List Value→List (Option (DV E.G.T))→List Nat→Prop
 | _,[],ts,Lo=>ts=[]∧Lo=[]
 | [],_::_,_,_=>False
 | .own b::ms,v::vs,ts,Lo=>∃ d ts' L1 L2,ts=some d::ts'∧Lo=L1++L2∧RepB S w d.b d.x v.cells.toList L1∧Shaped d.b v∧lG S w ms vs ts' L2
 | .clo _ bs::ms,v::vs,ts,Lo=>∃ ts',ts=bs.map (fun _=>none)++ts'∧lG S w ms vs ts' Lo
 | .ref _ _ _ _::ms,v::vs,ts,Lo=>∃ ts',ts=none::none::ts'∧lG S w ms vs ts' Lo
 | _::ms,v::vs,ts,Lo=>∃ ts',ts=none::ts'∧lG S w ms vs ts' Lo
theorem kK{Fd Fd2 L:List Nat}(k2:Loose C w S F (Fd2++(Fd++L))):Loose C w S F ((Fd++Fd2)++L):=by
 have hm:∀ x,x∈(Fd++Fd2)++L→x∈Fd2++(Fd++L):=by
  intro x hx
  simp only[aE]at hx ⊢
  rcases hx with (hx | hx) | hx
  ·exact .inr (.inl hx)
  ·exact .inl hx
  ·exact .inr (.inr hx)
 refine⟨?_,fun s x hx hx'=>k2.apart s x hx (hm x hx'),fun x hx=>k2.notS x (hm x hx),fun x hx=>k2.bnd x (hm x hx),fun x hx=>k2.fromF x (hm x hx)⟩
 have h1:=aF.1 k2.nd
 have h2:=aF.1 h1.2.1
 rw[List.append_assoc]
 refine aF.2 ⟨h2.1,aF.2 ⟨h1.1,h2.2.1,fun x hx y hy e=>h1.2.2 x hx y (ay _ hy) e⟩,fun x hx y hy e=>?_⟩
 rcases aE.1 hy with hy | hy
 ·exact h1.2.2 y hy x (ax _ hx) e.symm
 ·exact h2.2.2 x hx y hy e
theorem YT:∀ (ms:List Mode) (xs:List Operand) (σ σ1:St E.G) (F:Nat→List Nat) (L:List Nat) (ts:List (Option (DV E.G.T))),Ok C σ a w S F V→Loose C w S F L→(mT (E:=E) ms xs).run Fa σ=some (ts,σ1) →
  ∃ F1 Lo,Ok C σ1 a w S F1 V∧Loose C w S F1 (Lo++L)∧lG S w ms (xs.map a.eval) ts Lo:=by
 intro ms
 induction ms with
 | nil =>
  intro xs σ σ1 F L ts h hL hm
  cases xs with
  | nil=>obtain⟨rfl,rfl⟩:=aB (F:=Fa) hm;exact⟨F,[],h,hL,rfl,rfl⟩
  | cons x xs=>exact aA (F:=Fa) hm
 | cons m ms ih =>
  intro xs σ σ1 F L ts h hL hm
  cases xs with
  | nil =>
   have:ts=[]∧σ1=σ:=by cases m <;> exact aB (F:=Fa) hm
   obtain⟨rfl,rfl⟩:=this
   refine⟨F,[],h,hL,?_⟩
   cases m <;> exact⟨rfl,rfl⟩
  | cons x xs =>
   have plain:∀ (pre:List (Option (DV E.G.T))),((mT (E:=E) ms xs).bind fun r=>.ret (pre++r)).run Fa σ=some (ts,σ1)→∃ F1 Lo ts',Ok C σ1 a w S F1 V∧Loose C w S F1 (Lo++L)∧ts=pre++ts'∧lG S w ms (xs.map a.eval) ts' Lo:=by
    intro pre hm
    obtain⟨ts',σ2,h1,h2⟩:=az hm
    obtain⟨rfl,rfl⟩:=aB (F:=Fa) h2
    obtain⟨F1,Lo,k1,k2,k3⟩:=ih xs _ _ F L ts' h hL h1
    exact⟨F1,Lo,ts',k1,k2,rfl,k3⟩
   cases m with
   | own b =>
    obtain⟨p,σ2,h1,h2⟩:=az hm
    obtain⟨rfl,hp⟩:=cY h h1
    obtain⟨d,σ3,h3,h4⟩:=az h2
    obtain⟨F1,g1,g2,g3,Fd,g4,g5⟩:=jk h hL hp h3
    obtain⟨ts',σ4,h5,h6⟩:=az h4
    obtain⟨rfl,rfl⟩:=aB (F:=Fa) h6
    obtain⟨F2,Lo,k1,k2,k3⟩:=ih xs _ _ F1 (Fd++L) ts' g1 g5 h5
    exact⟨F2,Fd++Lo,k1,kK k2,d,ts',Fd,Lo,rfl,rfl,g4,g3,k3⟩
   | clo f bs =>
    obtain⟨F1,Lo,ts',k1,k2,k3,k4⟩:=plain (bs.map fun _=>none) hm
    exact⟨F1,Lo,k1,k2,ts',k3,k4⟩
   | ref b o b' o' =>
    obtain⟨F1,Lo,ts',k1,k2,k3,k4⟩:=plain [none,none] hm
    exact⟨F1,Lo,k1,k2,ts',k3,k4⟩
   | val b =>
    obtain⟨F1,Lo,ts',k1,k2,k3,k4⟩:=plain [none] hm
    exact⟨F1,Lo,k1,k2,ts',k3,k4⟩
   | io b =>
    obtain⟨F1,Lo,ts',k1,k2,k3,k4⟩:=plain [none] hm
    exact⟨F1,Lo,k1,k2,ts',k3,k4⟩
   | ptr b =>
    obtain⟨F1,Lo,ts',k1,k2,k3,k4⟩:=plain [none] hm
    exact⟨F1,Lo,k1,k2,ts',k3,k4⟩
def ke(S:Nat→Prop)(w:World):List (PM×BT×Value)→List (Option (DV E.G.T))→List Nat→Prop
 | [],_,Lo=>Lo=[]
 | (.own,b,v)::its,ts,Lo=>∃ L1 L2,Lo=L1++L2∧(∀ d,ts.head?.join=some d→RepB S w d.b d.x v.cells.toList L1∧Shaped d.b v)∧ke S w its ts.tail L2
 | _::its,ts,Lo=>ke S w its ts.tail Lo
theorem qK:∀ (its:List (PM×BT×Value)),ke (E:=E) S w its [] []
 | []=>rfl
 | (.own,b,v)::its=>⟨[],[],rfl,fun d h=>(by cases h),qK its⟩
 | (.val,b,v)::its=>qK its
 | (.io,b,v)::its=>qK its
 | (.ptr _,b,v)::its=>qK its
theorem LB{its:List (PM×BT×Value)}{ts:List (Option (DV E.G.T))}{Lo:List Nat}(h:ke (E:=E) S w its ts Lo):∀ (bs:List BT) (vs:List Value),vs.length=bs.length→ke (E:=E) S w (eX bs vs++its) (bs.map (fun _=>none)++ts) Lo
 | [],[],_=>h
 | b::bs,v::vs,hl=>LB h bs vs (by simpa using hl)
 | [],_::_,hl=>by simp at hl
 | _::_,[],hl=>by simp at hl
theorem mV:∀ (ms:List Mode) (vs us:List Value) (ts:List (Option (DV E.G.T))) (Lo:List Nat) (vits:List (PM×BT×Value)),lG (E:=E) S w ms vs ts Lo→eO ms (vs++us) vits→ke (E:=E) S w vits ts Lo
 | ms,[],us,ts,Lo,vits,h,hf=>by
  have:ts=[]∧Lo=[]:=by cases ms with
   | nil=>exact h
   | cons m ms=>cases m <;> exact h
  rw[this.1,this.2]
  exact qK vits
 | [],v::vs,us,ts,Lo,vits,h,hf=>h.elim
 | m::ms,v::vs,us,ts,Lo,vits,h,hf=>by
  obtain⟨v',vs',i1,i2,e1,e2,h1,h2⟩:=hf
  simp only[List.cons_append,List.cons.injEq]at e1
  obtain⟨rfl,e1⟩:=e1
  subst e2
  rw[← e1]at h2
  cases m with
  | own b =>
   obtain⟨d,ts',L1,L2,e3,e4,h3,h4,h5⟩:=h
   subst e3;subst e4
   have:i1=[(.own,b,v)]:=h1
   subst this
   refine⟨L1,L2,rfl,fun d' hd=>?_,mV ms vs us ts' L2 i2 h5 h2⟩
   obtain rfl:d=d':=by simpa using hd
   exact⟨h3,h4⟩
  | clo f bs =>
   obtain⟨ts',e3,h5⟩:=h
   subst e3
   obtain⟨ws,_,hl,e5⟩:=h1
   subst e5
   exact LB (mV ms vs us ts' Lo i2 h5 h2) bs ws.toList hl
  | ref b o b' o' =>
   obtain⟨ts',e3,h5⟩:=h
   subst e3
   obtain⟨u,e5⟩:=h1
   subst e5
   exact mV ms vs us ts' Lo i2 h5 h2
  | val b =>
   obtain⟨ts',e3,h5⟩:=h
   subst e3
   have:i1=[(.val,b,v)]:=h1
   subst this
   exact mV ms vs us ts' Lo i2 h5 h2
  | io b =>
   obtain⟨ts',e3,h5⟩:=h
   subst e3
   have:i1=[(.io,b,v)]:=h1
   subst this
   exact mV ms vs us ts' Lo i2 h5 h2
  | ptr b o =>
   obtain⟨ts',e3,h5⟩:=h
   subst e3
   have:i1=[(.ptr o,b,v)]:=h1
   subst this
   exact mV ms vs us ts' Lo i2 h5 h2
end
end
section
section
variable {E:Env} {Fa:cr E.Z} {C:Ctx} {σ σ1:St E.G} {a:Act} {w w':World} {S S':Nat→Prop} {F:Nat→List Nat} {V:Nat→Value} {L:List Nat} {fn:Fn}
theorem Ny{G:Gam}{o:Bool}{m:Nat}:∀ (n:Nat) (ts:List FT) (x:B G.T (.hole m)) (z:Js G.T ts),dY G o n ts (.hole m) x=some z→False
 | 0,ts,x,z,h=>by simp[dY]at h
 | n+1,[],x,z,h=>by simp[dY]at h
 | n+1,t::ts,x,z,h=>by simp[dY]at h
theorem Nz{G:Gam}{o:Bool}{e:FT}:∀ (n:Nat) (ts:List FT) (x:B G.T (.sp e)) (z:Js G.T ts),dY G o n ts (.sp e) x=some z→False
 | 0,ts,x,z,h=>by simp[dY]at h
 | n+1,[],x,z,h=>by simp[dY]at h
 | n+1,t::ts,x,z,h=>by simp[dY]at h
theorem Nx{G:Gam}{o:Bool}{k:Nat}:∀ (n:Nat) (ts:List FT) (x:B G.T (.fn k)) (z:Js G.T ts),dY G o n ts (.fn k) x=some z→False
 | 0,ts,x,z,h=>by simp[dY]at h
 | n+1,[],x,z,h=>by simp[dY]at h
 | n+1,t::ts,x,z,h=>by simp[dY]at h
theorem kq{b:BT}{d:DV E.G.T}{y:B E.G.T b}{v:Value}(h:coB E.G b d=some y)(hs:Shaped d.b v):Shaped b v:=by
 cases b with
 | leaf o t =>
  have h':coJ E.G o deep t d.b d.x=some y:=h
  cases hd:deep with
  | zero=>rw[hd]at h';simp[coJ]at h'
  | succ n =>
   rw[hd]at h'
   obtain⟨db,dx⟩:=d
   cases db with
   | leaf o' t' =>
    obtain⟨_,e,_⟩:=vF h'
    subst e
    cases t' <;> exact hs
   | un=>cases t with
    | nm m=>exact hs
    | _=>simp only[coJ]at h';exact b7 h'
   | pr _ _=>cases t with
    | nm m=>exact hs
    | _=>simp only[coJ]at h';exact b7 h'
   | hole m=>cases t with
    | nm k =>
     simp only[coJ]at h'
     split at h'
     ·rename_i z hz
      exact(Ny _ _ _ _ hz).elim
     ·exact b7 h'
    | _=>simp only[coJ]at h';exact b7 h'
   | sp e'=>cases t with
    | nm k =>
     simp only[coJ]at h'
     split at h'
     ·rename_i z hz
      exact(Nz _ _ _ _ hz).elim
     ·exact b7 h'
    | sl e=>exact hs
    | _=>simp only[coJ]at h';exact b7 h'
   | fn k0=>cases t with
    | nm k =>
     simp only[coJ]at h'
     split at h'
     ·rename_i z hz
      exact(Nx _ _ _ _ hz).elim
     ·exact b7 h'
    | _=>simp only[coJ]at h';exact b7 h'
 | un =>
  obtain⟨db,dx⟩:=d
  cases db with
  | un=>exact hs
  | _=>exact b7 h
 | hole n=>trivial
 | sp e =>
  obtain⟨db,dx⟩:=d
  cases db with
  | sp e'=>exact hs
  | _=>exact b7 h
 | fn k =>
  obtain⟨db,dx⟩:=d
  cases db with
  | fn k'=>exact hs
  | _=>exact b7 h
 | pr p q =>
  have h':ju (coB E.G p) (coB E.G q) (dp E.G d)=some y:=h
  obtain⟨db,dx⟩:=d
  cases db with
  | pr _ _=>exact hs
  | leaf o t=>cases t with
   | nm m=>exact hs
   | _=>exact b7 h'
  | un=>exact b7 h'
  | hole _=>exact b7 h'
  | sp _=>exact b7 h'
  | fn _=>exact b7 h'
def vh(S:Nat→Prop)(w:World)(σ:St E.G)(F:Nat→List Nat)(V:Nat→Value)(Lent:Nat→Prop)(pm:PM)(b:BT)(v:Value)(d:DV E.G.T)(us:List Use)(P:List Nat):Prop :=
 match pm with
 | .val=>P=[]∧b.cp E.G=true∧(∀ u∈us,u.lent=true)∧Shaped d.b v∧∃ Fd,RepB (fun x=>S x∨Lent x) w d.b d.x v.cells.toList Fd∧Fd.Nodup∧∀ x∈Fd,Lent x
 | .own=>us=[]∧RepB S w d.b d.x v.cells.toList P∧Shaped d.b v
 | .io=>∃ s q d0,us=[⟨s,q,false,true⟩]∧(σ.slot s).cont = .data d0∧get E.G q d0=some d∧P=F s∧(∃ cs ad cs' ad',Root w (σ.slot s) (V s) cs ad∧loc w q d0 cs ad=some (d,cs',ad')∧v.cells.toList=cs') ∧
   Shaped d.b v∧(q=[]→(σ.slot s).box=false→v=V s)
 | .ptr _=>∃ s blk,us=[⟨s,[],false,false⟩]∧(σ.slot s).cont = .data d∧(σ.slot s).box=true∧P=F s∧V s = .pointer (some ⟨blk,0,none⟩)∧v = .pointer (some ⟨blk,0,none⟩)
def RawItems(S:Nat→Prop)(w:World)(σ:St E.G)(F:Nat→List Nat)(V:Nat→Value)(Lent:Nat→Prop):List (PM×BT×Value)→List (DV E.G.T)→List Use→List Nat→Prop
 | [],ds,us,P=>ds=[]∧us=[]∧P=[]
 | it::its,ds,us,P=>∃ d ds' u1 u2 P1 P2,ds=d::ds'∧us=u1++u2∧P=P1++P2∧vh S w σ F V Lent it.1 it.2.1 it.2.2 d u1 P1∧RawItems S w σ F V Lent its ds' u2 P2
def dS(us:List Use):List Use:=us.filter fun u=>!u.lent
def gQ(F:Nat→List Nat)(us:List Use)(x:Nat):Prop:=∃ u∈us,u.lent=true∧x∈F u.s
theorem RawItems.mono{Lent Lent':Nat→Prop}(hl:∀ x,Lent x→Lent' x):∀ {its:List (PM×BT×Value)} {ds:List (DV E.G.T)} {us:List Use} {P:List Nat},RawItems S w σ F V Lent its ds us P→RawItems S w σ F V Lent' its ds us P
 | [],ds,us,P,h=>h
 | it::its,ds,us,P,⟨d,ds',u1,u2,P1,P2,h1,h2,h3,h4,h5⟩=>by
  refine⟨d,ds',u1,u2,P1,P2,h1,h2,h3,?_,RawItems.mono hl h5⟩
  obtain⟨pm,b,v⟩:=it
  cases pm with
  | val =>
   obtain⟨k1,k2,k3,k4,Fd,k5,k6,k7⟩:=h4
   exact⟨k1,k2,k3,k4,Fd,RepB.frame (fun x hx=>⟨hx.imp id (hl x),rfl⟩) k5 (fun _ _=>rfl),k6,fun x hx=>hl x (k7 x hx)⟩
  | own=>exact h4
  | io=>exact h4
  | ptr=>exact h4
theorem U7(h:Ok C σ a w S F V){t:Option FT}{p:bX E}{v:Value}(hp:b9 S w σ.slot V p v){d:DV E.G.T}(hr:(rdT (E:=E) t p).run Fa σ=some (d,σ1)):σ1=σ∧Shaped d.b v∧∃ Fd,RepB (fun x=>S x∨gQ F (jt p) x) w d.b d.x v.cells.toList Fd∧Fd.Nodup∧∀ x∈Fd,gQ F (jt p) x:=by
 by_cases hn:p = .nil
 ·subst hn
  have hv:v = .slice none 0 0:=hp
  subst hv
  unfold rdT at hr
  cases t with
  | none=>exact aA (F:=Fa) hr
  | some ft=>cases ft with
   | sl e =>
    obtain⟨rfl,rfl⟩:=aB (F:=Fa) hr
    exact⟨rfl,fun cs h=>(by cases h),[],repE_sl.2 (.inl ⟨lM _,rfl,rfl⟩),List.nodup_nil,fun _ h=>by cases h⟩
   | _=>exact aA (F:=Fa) hr
 ·have:rdT (E:=E) t p=rdM p:=by cases p <;> first | rfl | exact absurd rfl hn
  rw[this]at hr
  have hsl:∀ s,p.slotOf=some s→∀ x∈F s,gQ F (jt p) x:=by
   intro s hs x hx
   cases p with
   | ali s' q g=>cases hs;exact⟨_,aN.2 rfl,rfl,hx⟩
   | view s' q g lo hi=>cases hs;exact⟨_,aN.2 rfl,rfl,hx⟩
   | _=>cases hs
  obtain⟨h1,h2,h3,Fd,h4,h5,h6⟩:=sL h hp hr (S':=fun x=>S x∨gQ F (jt p) x) (fun x hx=>.inl hx) (fun s hs x hx=>.inr (hsl s hs x hx))
  exact⟨h1,h3,Fd,h4,h5,fun x hx=>by obtain⟨s,k1,k2⟩:=h6 x hx;exact hsl s k1 x k2⟩
theorem FY{us:List Use}(h:∀ u∈us,u.lent=true):dS us=[]:=by
 unfold dS
 rw[List.filter_eq_nil_iff]
 intro u hu
 simp[h u hu]
theorem FX(us vs:List Use):dS (us++vs)=dS us++dS vs:=List.filter_append ..
theorem Is(p:bX E):∀ u∈jt p,u.lent=true:=by
 intro u hu
 cases p <;> simp[jt]at hu <;> (subst hu;rfl)
theorem Jm(h:Ok C σ a w S F V):∀ (its:List (Itm E.Z.G)) (vits:List (PM×BT×Value)) (ts:List (Option (DV E.G.T))) (Lo:List Nat) (ds:List (DV E.G.T)) (us:List Use) (σ1:St E.G),Rel S w σ.slot V its vits→ke (E:=E) S w vits ts Lo →
  (xR (E:=E) its ts).run Fa σ=some ((ds,us),σ1)→σ1=σ∧∃ P,RawItems S w σ F V (gQ F us) vits ds us P∧P.Perm ((dS us).flatMap (fun u=>F u.s)++Lo)∧vits.length=its.length
 | [],vits,ts,Lo,ds,us,σ1,hr,ht,hm=>by
  have:vits=[]:=hr
  subst this
  have:Lo=[]:=ht
  subst this
  obtain⟨h1,rfl⟩:=aB (F:=Fa) hm
  cases h1
  exact⟨rfl,[],⟨rfl,rfl,rfl⟩,List.Perm.refl _,rfl⟩
 | it::its,vits,ts,Lo,ds,us,σ1,hr,ht,hm=>by
  obtain⟨v,r,rfl,hp,hr'⟩:=hr
  obtain⟨x,σ2,h1,h2⟩:=az hm
  obtain⟨y,σ3,h3,h4⟩:=az h2
  obtain⟨h5,rfl⟩:=aB (F:=Fa) h4
  cases h5
  have first:σ2=σ∧∃ P1 L2,ke (E:=E) S w r ts.tail L2∧vh S w σ F V (gQ F x.2) it.pm it.b v x.1 x.2 P1∧∀ P2 B2,P2.Perm (B2++L2)→(P1++P2).Perm (((dS x.2).flatMap fun(u:Use)=>F u.s)++B2++Lo):=by
   obtain⟨pm,b,p⟩:=it
   cases pm with
   | own =>
    obtain⟨L1,L2,rfl,k1,k2⟩:=ht
    have h1':M.run Fa (match ts.head?.join with
     | some d=>.ret (d,[])
     | none=>.fail) σ=some (x,σ2):=h1
    cases hj:ts.head?.join with
    | none=>rw[hj]at h1';exact aA (F:=Fa) h1'
    | some d =>
     rw[hj]at h1'
     obtain⟨e1,e2⟩:=aB (F:=Fa) h1'
     subst e1;subst e2
     obtain⟨k3,k4⟩:=k1 d hj
     refine⟨rfl,L1,L2,k2,⟨rfl,k3,k4⟩,fun P2 B2 hp2=>?_⟩
     show(L1++P2).Perm ([]++B2++(L1++L2))
     rw[bl]
     refine(List.Perm.append_left L1 hp2).trans ?_
     rw[← List.append_assoc,← List.append_assoc]
     exact List.Perm.append_right L2 List.perm_append_comm
   | val =>
    obtain⟨hcp,h1'⟩:=aC (F:=Fa) (show M.run Fa (need (b.cp E.G) ((rdT (jI b) p).bind fun d=>.ret (d,jt p))) σ=some (x,σ2)from h1)
    obtain⟨d,σ4,h6,h7⟩:=az h1'
    obtain⟨e1,e2⟩:=aB (F:=Fa) h7
    subst e1;subst e2
    obtain⟨rfl,k1,Fd,k2,k3,k4⟩:=U7 h hp h6
    refine⟨rfl,[],Lo,ht,⟨rfl,hcp,Is p,k1,Fd,k2,k3,k4⟩,fun P2 B2 hp2=>?_⟩
    show([]++P2).Perm (((dS (jt p)).flatMap fun(u:Use)=>F u.s)++B2++Lo)
    rw[FY (Is p)]
    exact hp2
   | io =>
    cases p with
    | ali s q g =>
     obtain⟨hnz,h1n⟩:=aC (F:=Fa) (show M.run Fa (need (nfz (σ.slot s)) ((rdM (.ali s q g)).bind fun d=>.ret (d,[⟨s,q,false,true⟩]))) σ=some (x,σ2)from h1)
     obtain⟨d,σ4,h6,h7⟩:=az h1n
     obtain⟨e1,e2⟩:=aB (F:=Fa) h7
     subst e1;subst e2
     have h6':M.run Fa (match (σ.slot s).cont with
      | .data d=>need (dK (σ.slot s) q g) ((iw (get E.G q d)).bind fun c=>need c.b.whole (.ret c))
      | .frz d=>fS (σ.slot s) q g d
      | _=>.fail) σ=some (d,σ2):=h6
     cases hc:(σ.slot s).cont with
     | dead=>rw[hc]at h6';exact aA (F:=Fa) h6'
     | word _=>rw[hc]at h6';exact aA (F:=Fa) h6'
     | frz _=>unfold nfz at hnz;rw[hc]at hnz;cases hnz
     | data d0 =>
      rw[hc]at h6'
      obtain⟨hcur,h8⟩:=aC h6'
      obtain⟨c,σ5,h9,h10⟩:=az h8
      obtain⟨h11,rfl⟩:=M.run_lift h9
      obtain⟨_,h12⟩:=aC h10
      obtain⟨rfl,rfl⟩:=aB (F:=Fa) h12
      obtain⟨cs,ad,cs',ad',F',k1,k2,k3,k4,k5,k6,k7⟩:=nb h hp hcur hc h11
      refine⟨rfl,F s,Lo,ht,⟨s,q,d0,rfl,hc,h11,rfl,⟨cs,ad,cs',ad',k1,k5,k6⟩,k7,fun hq hb=>?_⟩,fun P2 B2 hp2=>?_⟩
      ·subst hq
       have hcur':(σ2.slot s).born≤g:=by
        simp only[dK,hb,cond_false]at hcur;exact aG hcur
       exact hp.2.1 rfl hb hcur'
      ·show(F s++P2).Perm ((F s++[])++B2++Lo)
       rw[aL,List.append_assoc]
       exact List.Perm.append_left _ hp2
    | _=>exact aA (F:=Fa) h1
   | ptr =>
    have hcase:∃ s g,p = .ptr s [] 0 g:=by
     cases p with
     | ptr s q off g =>
      cases q with
      | nil=>cases off with
       | zero=>exact⟨s,g,rfl⟩
       | succ n=>exact aA (F:=Fa) h1
      | cons _ _=>exact aA (F:=Fa) h1
     | _=>exact aA (F:=Fa) h1
    obtain⟨s,g,rfl⟩:=hcase
    have h6':M.run Fa (match (σ.slot s).cont with
      | .data d=>need (kr (σ.slot s) [] g&&(σ.slot s).box) (.ret (d,[⟨s,[],false,false⟩]))
      | _=>.fail) σ=some (x,σ2):=h1
    cases hc:(σ.slot s).cont with
    | dead=>rw[hc]at h6';exact aA (F:=Fa) h6'
    | word _=>rw[hc]at h6';exact aA (F:=Fa) h6'
    | frz _=>rw[hc]at h6';exact aA (F:=Fa) h6'
    | data d0 =>
     rw[hc]at h6'
     obtain⟨hcur,h8⟩:=aC h6'
     obtain⟨e1,e2⟩:=aB (F:=Fa) h8
     subst e1;subst e2
     simp only[aD]at hcur
     have hb:(σ2.slot s).born≤g:=by
      have:=hcur.1;simp only[kr,cZ,cond_true]at this;exact aG this
     obtain⟨k1,blk,k2,k3⟩:=hp.2.1 rfl hb
     refine⟨rfl,F s,Lo,ht,⟨s,blk,rfl,hc,k1,rfl,k2,k3⟩,fun P2 B2 hp2=>?_⟩
     show(F s++P2).Perm ((F s++[])++B2++Lo)
     rw[aL,List.append_assoc]
     exact List.Perm.append_left _ hp2
  obtain⟨e2,P1,L2,f1,f2,f3⟩:=first
  have e2':=e2.symm
  clear e2
  subst e2'
  obtain⟨e0,P2,g1,g2,g3⟩:=Jm h its r ts.tail L2 y.1 y.2 σ1 hr' f1 h3
  refine⟨e0,P1++P2,⟨x.1,y.1,x.2,y.2,P1,P2,rfl,rfl,rfl,?_,g1.mono fun z ⟨u,hu,k⟩=>⟨u,ay _ hu,k⟩⟩,?_,by simp[g3]⟩
  ·have:RawItems S w σ F V (gQ F (x.2++y.2)) [(it.pm,it.b,v)] [x.1] x.2 P1:=by
    have h0:RawItems S w σ F V (gQ F x.2) [(it.pm,it.b,v)] [x.1] x.2 P1:=⟨x.1,[],x.2,[],P1,[],rfl,by simp,by simp,f2,rfl,rfl,rfl⟩
    exact h0.mono fun z ⟨u,hu,k⟩=>⟨u,ax _ hu,k⟩
   obtain⟨d,ds',u1,u2,Q1,Q2,q1,q2,q3,q4,q5,q6,q7⟩:=this
   cases q1
   subst q6;subst q7
   rw[aL]at q2 q3
   subst q2;subst q3
   exact q4
  ·rw[FX,List.flatMap_append]
   exact f3 P2 _ g2
theorem xa:∀ (bs:List Use) (σ:St E.G) (F:Nat→List Nat) (L:List Nat),Ok C σ a w S F V→Loose C w S F L→(∀ u∈bs,∃ d,(σ.slot u.s).cont = .data d)→bs.Pairwise (fun u v=>u.s≠v.s) →
  ∃ σk Fk,Ok C σk a w S Fk V∧Loose C w S Fk (bs.flatMap (fun u=>F u.s)++L)∧σk.pin=σ.pin∧(∀ s,(∀ u∈bs,u.s≠s)→σk.slot s=σ.slot s∧Fk s=F s) ∧
   (∀ u∈bs,σk.slot u.s = { σ.slot u.s with gen:=(σ.slot u.s).gen+1,cont:=.dead })
 | [],σ,F,L,h,hL,_,_=>⟨σ,F,h,hL,rfl,fun _ _=>⟨rfl,rfl⟩,fun _ hu=>by cases hu⟩
 | u::bs,σ,F,L,h,hL,hd,hp=>by
  obtain⟨hp1,hp2⟩:=List.pairwise_cons.1 hp
  have hok:=h.turn (s0:=u.s) (x':={ σ.slot u.s with gen:=(σ.slot u.s).gen+1,cont:=.dead }) (v':=V u.s) (F':=[]) (S':=S) (w':=w) (fun b hb=>⟨hb,rfl⟩) (fun _ _ _ _=>rfl) (Nat.lt_succ_self _) (.inr ⟨rfl,rfl,rfl⟩) (Nat.le_succ_of_le (h.born u.s)) rfl List.nodup_nil (fun _ hb=>by cases hb)
   (fun s' hne b hb=>⟨fun hb'=>(by cases hb'),h.notS s' b hb⟩) (fun _ hb=>by cases hb) h.bndS (aK _) (fun _ _ _=>rfl) (fun _ hb=>by cases hb) h.fromS rfl rfl rfl (fun _=>rfl) (fun i h1 h2 h3=>absurd rfl h3)
  rw[jm]at hok
  have hL':Loose C w S (upd F u.s []) (F u.s++L):=by
   refine⟨aF.2 ⟨h.nd u.s,hL.nd,fun x hx y hy e=>hL.apart u.s x hx (e ▸ hy)⟩,fun s b hb hb'=>?_,fun b hb=>?_,fun b hb=>?_,fun b hb=>?_⟩
   ·by_cases e:s=u.s
    ·subst e;rw[ck]at hb;cases hb
    ·rw[cj _ _ e]at hb
     rcases aE.1 hb' with hb' | hb'
     ·exact h.apart s u.s e b hb hb'
     ·exact hL.apart s b hb hb'
   ·rcases aE.1 hb with hb | hb
    ·obtain⟨du,hdu⟩:=hd u (aH ..)
     exact h.notSd hdu b hb
    ·exact hL.notS b hb
   ·rcases aE.1 hb with hb | hb
    ·exact h.bnd u.s b hb
    ·exact hL.bnd b hb
   ·rcases aE.1 hb with hb | hb
    ·exact h.fromF u.s b hb
    ·exact hL.fromF b hb
  have hsl:∀ s,s≠u.s→(σ.setS u.s { σ.slot u.s with gen:=(σ.slot u.s).gen+1,cont:=.dead }).slot s=σ.slot s:=fun s hs=>by rw[St.setS_slot,cj _ _ hs]
  obtain⟨σk,Fk,k1,k2,k3,k4,k5⟩:=xa bs _ _ _ hok hL' (fun v hv=>by rw[hsl v.s (fun e=>hp1 v hv e.symm)];exact hd v (aI _ hv)) hp2
  refine⟨σk,Fk,k1,?_,k3,fun s hs=>?_,fun v hv=>?_⟩
  ·have e1:bs.flatMap (fun u'=>upd F u.s [] u'.s)=bs.flatMap fun u'=>F u'.s:=by
    rw[List.flatMap_def,List.flatMap_def]
    congr 1
    exact List.map_congr_left fun v hv=>cj _ _ fun e=>hp1 v hv e.symm
   rw[e1]at k2
   rw[List.flatMap_cons]
   exact kK k2
  ·have h1:=k4 s fun v hv=>hs v (aI _ hv)
   have h2:s≠u.s:=fun e=>hs u (aH ..) e.symm
   rw[hsl s h2,cj _ _ h2]at h1
   exact h1
  ·rcases aO.1 hv with rfl | hv
   ·have:=(k4 v.s fun v' hv' e=>hp1 v' hv' e.symm).1
    rw[this,St.setS_slot,ck]
   ·have:=k5 v hv
    rw[hsl v.s (fun e=>hp1 v hv e.symm)]at this
    exact this
def FD(S':Nat→Prop)(w w':World)(σ:St E.G)(V:Nat→Value)(u:Use)(dv:DV E.G.T)(R:List Nat):Prop :=
 ∀ d0 dn,(σ.slot u.s).cont = .data d0→put E.G dv u.p d0=some dn→dw S' w' (σ.slot u.s).box dn (V u.s) R∧(u.io=true→(σ.slot u.s).box=true→∀ cs ad,Root w' (σ.slot u.s) (V u.s) cs ad→Root w (σ.slot u.s) (V u.s) cs ad)
def hY(S':Nat→Prop)(w w':World)(σ:St E.G)(V:Nat→Value):List Use→List (DV E.G.T)→List Nat→Prop
 | [],ds,R=>ds=[]∧R=[]
 | u::us,ds,R=>if u.lent=true then hY S' w w' σ V us ds R else ∃ d ds' R1 R2,ds=d::ds'∧R=R1++R2∧FD S' w w' σ V u d R1∧hY S' w w' σ V us ds' R2
theorem xY{σ:St E.G}(horig:∀ s i,(σ.slot s).orig=some i→(σ.slot s).box=true→(σ.slot s).cont ≠ .dead→∀ cs ad,Root w (σ.slot s) (V s) cs ad→cs=(C.V0 (16*i)).cells.toList) :
  ∀ (us:List Use) (ds:List (DV E.G.T)) (R:List Nat) (σe σk σ2:St E.G) (Fk:Nat→List Nat) (L:List Nat),hY S' w w' σ V us ds R→(dS us).Pairwise (fun u v=>u.s≠v.s)→Ok C σk a w' S' Fk V→Loose C w' S' Fk (R++L)→σk.pin=σe.pin →
   (∀ s,(∀ u∈dS us,u.s≠s)→σk.slot s=σe.slot s)→(∀ u∈dS us,σe.slot u.s=σ.slot u.s∧σk.slot u.s = { σ.slot u.s with gen:=(σ.slot u.s).gen+1,cont:=.dead }) →
   (kj (E:=E) us ds).run Fa σe=some ((),σ2)→∃ F2,Ok C σ2 a w' S' F2 V∧Loose C w' S' F2 L
 | [],ds,R,σe,σk,σ2,Fk,L,hr,hp,h,hL,hpin,hs,hb,hm=>by
  obtain⟨rfl,rfl⟩:=hr
  obtain⟨_,rfl⟩:=aB (F:=Fa) hm
  have:σk=σ2:=by
   have h1:σk.slot=σ2.slot:=funext fun s=>hs s fun u hu=>by cases hu
   cases σk;cases σ2
   simp only at h1 hpin
   rw[h1,hpin]
  subst this
  exact⟨Fk,h,hL⟩
 | u::us,ds,R,σe,σk,σ2,Fk,L,hr,hp,h,hL,hpin,hs,hb,hm=>by
  cases hl:u.lent with
  | true =>
   unfold hY at hr
   rw[bw hl]at hr
   have hbk:dS (u::us)=dS us:=by unfold dS;rw[List.filter_cons_of_neg (by simp[hl])]
   rw[hbk]at hp hs hb
   unfold kj at hm
   rw[hl]at hm
   exact xY horig us ds R σe σk σ2 Fk L hr hp h hL hpin hs hb hm
  | false =>
   unfold hY at hr
   rw[bz (by rw[hl];decide)]at hr
   have hbk:dS (u::us)=u::dS us:=by unfold dS;rw[List.filter_cons_of_pos (by simp[hl])]
   rw[hbk]at hp hs hb
   obtain⟨d,ds',R1,R2,rfl,rfl,h1,h2⟩:=hr
   obtain⟨hp1,hp2⟩:=List.pairwise_cons.1 hp
   unfold kj at hm
   rw[hl]at hm
   simp only[cond_false]at hm
   obtain⟨_,σ3,h3,h4⟩:=az hm
   obtain⟨b1,b2⟩:=hb u (aH ..)
   have h3':M.run Fa (match (σe.slot u.s).cont with
    | .data d1=>match put E.G d u.p d1 with
     | some d'=>.setS u.s { σe.slot u.s with gen:=(σe.slot u.s).gen+2,orig:=bif u.io then(σe.slot u.s).orig else none,cont:=.data d' } (.ret ())
     | none=>.fail
    | _=>.fail) σe=some ((),σ3):=h3
   rw[b1]at h3'
   cases hc:(σ.slot u.s).cont with
   | dead=>rw[hc]at h3';exact aA (F:=Fa) h3'
   | word _=>rw[hc]at h3';exact aA (F:=Fa) h3'
   | frz _=>rw[hc]at h3';exact aA (F:=Fa) h3'
   | data d0 =>
    rw[hc]at h3'
    simp only at h3'
    cases hput:put E.G d u.p d0 with
    | none=>rw[hput]at h3';exact aA (F:=Fa) h3'
    | some dn =>
     rw[hput]at h3'
     change some ((),σe.setS u.s ⟨(σ.slot u.s).gen+2,(σ.slot u.s).born,(σ.slot u.s).box,bif u.io then(σ.slot u.s).orig else none,.data dn⟩)=some ((),σ3)at h3'
     cases h3'
     obtain⟨r1,r2⟩:=h1 d0 dn hc hput
     have hborn:=h.born u.s
     rw[b2]at hborn
     simp only at hborn
     have hLn:=aF.1 hL.nd
     have hRL:∀ x∈R1,x∈(R1++R2)++L:=fun x hx=>by simp[hx]
     have hok:=h.turn (s0:=u.s) (x':=⟨(σ.slot u.s).gen+2,(σ.slot u.s).born,(σ.slot u.s).box,bif u.io then(σ.slot u.s).orig else none,.data dn⟩) (v':=V u.s) (F':=R1) (S':=S') (w':=w') (fun b hb=>⟨hb,rfl⟩) (fun _ _ _ _=>rfl)
      (by rw[b2];exact Nat.lt_succ_self _) (.inr ⟨by rw[b2],by rw[b2],rfl⟩) (by simp only;omega) ((j5 rfl).2 r1) (aF.1 hLn.1).1 (fun x hx=>hL.notS x (hRL x hx))
      (fun s' hne x hx=>⟨fun hx'=>hL.apart s' x hx (hRL x hx'),h.notS s' x hx⟩) (fun x hx=>hL.bnd x (hRL x hx)) h.bndS (aK _) (fun _ _ _=>rfl) (fun x hx=>hL.fromF x (hRL x hx)) h.fromS rfl rfl rfl (fun _=>rfl)
      (fun i k1 k2 k3 cs ad k4=>by
       simp only at k1 k2
       cases hio:u.io with
       | false=>rw[hio]at k1;cases k1
       | true =>
        rw[hio]at k1
        have k4':Root w' (σ.slot u.s) (V u.s) cs ad:=by
         unfold Root at k4 ⊢
         exact k4
        exact horig u.s i k1 k2 (by rw[hc];simp) cs ad (r2 hio k2 cs ad k4'))
     rw[jm]at hok
     have hL2:Loose C w' S' (upd Fk u.s R1) (R2++L):=by
      have hn1:=aF.1 hLn.1
      refine⟨aF.2 ⟨hn1.2.1,hLn.2.1,fun x hx y hy e=>hLn.2.2 x (ay _ hx) y hy e⟩,fun s x hx hx'=>?_,fun x hx=>hL.notS x ?_,fun x hx=>hL.bnd x ?_,fun x hx=>hL.fromF x ?_⟩
      ·by_cases e:s=u.s
       ·subst e
        rw[ck]at hx
        rcases aE.1 hx' with hx' | hx'
        ·exact hn1.2.2 x hx x hx' rfl
        ·exact hLn.2.2 x (ax _ hx) x hx' rfl
       ·rw[cj _ _ e]at hx
        refine hL.apart s x hx ?_
        rcases aE.1 hx' with hx' | hx' <;> simp[hx']
      all_goals rcases aE.1 hx with hx | hx <;> simp[hx]
     refine xY horig us ds' R2 (σe.setS u.s ⟨(σ.slot u.s).gen+2,(σ.slot u.s).born,(σ.slot u.s).box,bif u.io then(σ.slot u.s).orig else none,.data dn⟩) (σk.setS u.s ⟨(σ.slot u.s).gen+2,(σ.slot u.s).born,(σ.slot u.s).box,bif u.io then(σ.slot u.s).orig else none,.data dn⟩) σ2 _ L h2 hp2 hok hL2 hpin (fun s hs'=>?_) (fun v hv=>?_) h4
     ·rw[St.setS_slot,St.setS_slot]
      by_cases e:s=u.s
      ·subst e;rw[ck,ck]
      ·rw[cj _ _ e,cj _ _ e]
       refine hs s fun v hv=>?_
       rcases aO.1 hv with rfl | hv
       ·exact fun e'=>e e'.symm
       ·exact hs' v hv
     ·have hne:v.s≠u.s:=fun e=>hp1 v hv e.symm
      rw[St.setS_slot,St.setS_slot,cj _ _ hne,cj _ _ hne]
      exact hb v (aI _ hv)
end
end
section
section
variable {E:Env} {Fa:cr E.Z} {C:Ctx} {σ σ1:St E.G} {a:Act} {w:World} {S:Nat→Prop} {F:Nat→List Nat} {V:Nat→Value} {L:List Nat} {fn:Fn}
def gM(Fc F':List Nat):List Nat:=Fc.filter fun x=>!F'.contains x
theorem mem_dropped{Fc F':List Nat}{x:Nat}:x∈gM Fc F'↔x∈Fc∧x∉F':=by
 unfold gM
 rw[List.mem_filter]
 simp
theorem UV(h:Ok C σ a w S F V){Lent:Nat→Prop}{pm:PM}{b:BT}{v:Value}{d:DV E.G.T}{us:List Use}{P:List Nat}(hr:vh S w σ F V Lent pm b v d us P)(hP:P.Nodup){y:B E.G.T b}(hy:coB E.G b d=some y) :
  ∃ F0 D:List Nat,F0.Nodup∧(∀ x∈F0,x∈P)∧(∀ x∈D,x∈P∧x∉F0)∧(∀ S0:Nat→Prop,(∀ x,S x∨Lent x∨x∈D→S0 x)→m9 S0 w pm b v ⟨b,y⟩ F0) ∧
   (pm.back=false→∀ u∈us,u.lent=true) ∧
   (pm.back=true→∃ u,us=[u]∧u.lent=false∧∀ (S':Nat→Prop) (w':World) (dv:DV E.G.T) (Fb:List Nat),(∀ x,S x→S' x∧w'.heap[x]? = w.heap[x]?)→(∀ x∈P,x∉F0→w'.heap[x]? = w.heap[x]?)→m9 S' w' pm (pm.out b) v dv Fb→Fb.Nodup→(∀ x∈Fb,x∈F0∨x∉P) →
    ∃ R:List Nat,R.Nodup∧(∀ x∈R,x∈Fb∨(x∈P∧x∉F0∧x∉D))∧FD S' w w' σ V u dv R):=by
 cases pm with
 | val =>
  obtain⟨rfl,hcp,hl,hsh,Fd,h1,h2,h3⟩:=hr
  refine⟨[],[],List.nodup_nil,fun _ h=>(by cases h),fun _ h=>(by cases h),fun S0 hS=>?_,fun _=>hl,fun h=>by cases h⟩
  obtain⟨F',hs,k⟩:=gL b d y _ Fd hy h1 h2
  have hrep:=k S0 (fun x hx=>hS x (hx.imp id .inl)) (fun x hx _=>hS x (.inr (.inl (h3 x hx))))
  have e:=RepB.cp hcp hrep
  subst e
  exact⟨y,rfl,hrep,kq hy hsh,hcp,rfl⟩
 | own =>
  obtain⟨rfl,h1,hsh⟩:=hr
  obtain⟨F',hs,k⟩:=gL b d y _ P hy h1 hP
  refine⟨F',gM P F',hP.sublist hs,fun x hx=>hs.subset hx,fun x hx=>mem_dropped.1 hx,fun S0 hS=>⟨y,rfl,k S0 (fun x hx=>hS x (.inl hx)) (fun x hx hx'=>hS x (.inr (.inr (mem_dropped.2 ⟨hx,hx'⟩)))),kq hy hsh⟩,fun _ u hu=>(by cases hu),fun h=>by cases h⟩
 | ptr =>
  obtain⟨s,blk,rfl,hc,hb,rfl,hV,rfl⟩:=hr
  have hs:=(j5 hc).1 (h.slots s)
  unfold dw at hs
  rw[bw hb]at hs
  obtain⟨blk',c,E0,Fs,e1,e2,e3,e4⟩:=hs
  rw[hV]at e1
  cases e1
  rw[e3]at hP
  have hn:=List.nodup_cons.1 hP
  obtain⟨F',hsub,k⟩:=gL b d y _ Fs hy e4 hn.2
  refine⟨blk::F',gM Fs F',List.nodup_cons.2 ⟨fun hx=>hn.1 (hsub.subset hx),hn.2.sublist hsub⟩,fun x hx=>?_,fun x hx=>?_,fun S0 hS=>⟨y,rfl,blk,c,E0,F',rfl,e2,rfl,k S0 (fun x hx=>hS x (.inl hx)) (fun x hx hx'=>hS x (.inr (.inr (mem_dropped.2 ⟨hx,hx'⟩))))⟩,fun h=>(by cases h),fun _=>⟨_,rfl,rfl,?_⟩⟩
  ·rw[e3]
   rcases aO.1 hx with rfl | hx
   ·exact aH ..
   ·exact aI _ (hsub.subset hx)
  ·obtain⟨k1,k2⟩:=mem_dropped.1 hx
   refine⟨by rw[e3];exact aI _ k1,fun hx'=>?_⟩
   rcases aO.1 hx' with rfl | hx'
   ·exact hn.1 k1
   ·exact k2 hx'
  ·intro S' w' dv Fb hS hP' hi hnb hfb
   obtain⟨y',rfl,blk2,c',E1,F2,q1,q2,q3,q4⟩:=hi
   cases q1
   refine⟨Fb,hnb,fun x hx=>.inl hx,fun d0 dn k1 k2=>?_⟩
   simp only at k1 k2
   cases k2
   refine⟨?_,fun hio=>by cases hio⟩
   unfold dw
   rw[bw hb]
   exact⟨blk,c',E1,F2,hV,q2,q3,q4⟩
 | io =>
  obtain⟨s,q,d0,rfl,hc,hg,rfl,⟨cs,ad,cs',ad',k1,k2,k3⟩,hsh,hvs⟩:=hr
  have hs:=(j5 hc).1 (h.slots s)
  obtain⟨pre,Fs,e1,e2,e3⟩:∃ pre Fs,F s=pre++Fs∧RepB S w d0.b d0.x cs Fs∧(∀ (S':Nat→Prop) (w':World) (dn:DV E.G.T) (R:List Nat),(∀ x∈pre,w'.heap[x]? = w.heap[x]?)→RepB S' w' dn.b dn.x cs R→((σ.slot s).box=false→Shaped dn.b (V s))→dw S' w' (σ.slot s).box dn (V s) (pre++R) ∧
    ((σ.slot s).box=true→∀ cs2 ad2,Root w' (σ.slot s) (V s) cs2 ad2→Root w (σ.slot s) (V s) cs2 ad2)):=by
   unfold dw at hs
   unfold Root at k1
   cases hb:(σ.slot s).box with
   | true =>
    rw[bw hb]at hs k1
    obtain⟨blk,c,E0,Fs,e1,e2,e3,e4⟩:=hs
    obtain⟨blk',c',E0',g1,g2,g3,g4⟩:=k1
    rw[e1]at g1;cases g1
    rw[e2]at g2;cases g2
    subst g3
    refine⟨[blk],Fs,e3,e4,fun S' w' dn R hpre hrep _=>⟨?_,fun _ cs2 ad2 hroot=>?_⟩⟩
    ·unfold dw
     rw[bw rfl]
     exact⟨blk,c,E0,R,e1,(hpre blk (by simp)).trans e2,rfl,hrep⟩
    ·unfold Root at hroot ⊢
     rw[bw hb]at hroot ⊢
     obtain⟨b2,c2,E2,r1,r2,r3,r4⟩:=hroot
     rw[e1]at r1;cases r1
     rw[hpre blk (by simp),e2]at r2;cases r2
     exact⟨blk,c,E0,e1,e2,r3,r4⟩
   | false =>
    rw[bz (by rw[hb];decide)]at hs k1
    obtain⟨rfl,rfl⟩:=k1
    refine⟨[],F s,rfl,hs.1,fun S' w' dn R _ hrep hshp=>⟨?_,fun h=>by cases h⟩⟩
    unfold dw
    rw[bz (by decide)]
    exact⟨hrep,hshp rfl⟩
  rw[e1]at hP
  have hn:=aF.1 hP
  obtain⟨Ga,Gc,Gb,m3,m5,_,m6⟩:=xJ q d0 d cs cs' Fs ad ad' k2 e2 hn.2.1
  have hnF:=hn.2.1
  rw[m3]at hnF
  have hn1:=aF.1 hnF
  have hn2:=aF.1 hn1.1
  obtain⟨F',hsub,k⟩:=gL b d y _ Gc hy m5 hn2.2.1
  have inP:∀ x∈Gc,x∈F s:=fun x hx=>by rw[e1,m3];simp[hx]
  have notF0:∀ x,x∈pre∨x∈Ga∨x∈Gb→x∉Gc:=by
   intro x hx hx'
   rcases hx with hx | hx | hx
   ·exact hn.2.2 x hx x (by rw[m3];simp[hx']) rfl
   ·exact hn2.2.2 x hx x hx' rfl
   ·exact hn1.2.2 x (by simp[hx']) x hx rfl
  refine⟨F',gM Gc F',hn2.2.1.sublist hsub,fun x hx=>inP x (hsub.subset hx),fun x hx=>?_,fun S0 hS=>⟨y,rfl,?_,kq hy hsh⟩,fun h=>(by cases h),fun _=>⟨_,rfl,rfl,?_⟩⟩
  ·obtain⟨q1,q2⟩:=mem_dropped.1 hx
   exact⟨inP x q1,q2⟩
  ·rw[k3]
   exact k S0 (fun x hx=>hS x (.inl hx)) (fun x hx hx'=>hS x (.inr (.inr (mem_dropped.2 ⟨hx,hx'⟩))))
  ·intro S' w' dv Fb hS hP' hi hnb hfb
   obtain⟨y',rfl,q1,q2⟩:=hi
   have same:∀ x,x∈pre∨x∈Ga∨x∈Gb→w'.heap[x]? = w.heap[x]?:=by
    intro x hx
    refine hP' x ?_ fun hx'=>notF0 x hx (hsub.subset hx')
    rw[e1,m3]
    rcases hx with hx | hx | hx <;> simp[hx]
   have hnoFb:∀ x,x∈pre∨x∈Ga∨x∈Gb→x∉Fb:=by
    intro x hx hx'
    rcases hfb x hx' with h1 | h1
    ·exact notF0 x hx (hsub.subset h1)
    ·refine h1 ?_
     rw[e1,m3]
     rcases hx with hx | hx | hx <;> simp[hx]
   refine⟨pre++(Ga++Fb++Gb),?_,fun x hx=>?_,fun d0' dn g1 g2=>?_⟩
   ·refine aF.2 ⟨hn.1,aF.2 ⟨aF.2 ⟨hn2.1,hnb,fun x hx z hz e=>hnoFb x (.inr (.inl hx)) (e ▸ hz)⟩,hn1.2.1,fun x hx z hz e=>?_⟩,fun x hx z hz e=>?_⟩
    ·rcases aE.1 hx with hx | hx
     ·exact hn1.2.2 x (by simp[hx]) z hz e
     ·exact hnoFb z (.inr (.inr hz)) (e ▸ hx)
    ·subst e
     rcases aE.1 hz with hz | hz
     ·rcases aE.1 hz with hz | hz
      ·exact hn.2.2 x hx x (by rw[m3];simp[hz]) rfl
      ·exact hnoFb x (.inl hx) hz
     ·exact hn.2.2 x hx x (by rw[m3];simp[hz]) rfl
   ·have hother:x∈pre∨x∈Ga∨x∈Gb→x∈F s∧x∉F'∧x∉gM Gc F':=by
     intro hx
     refine⟨?_,fun hx'=>notF0 x hx (hsub.subset hx'),fun hx'=>notF0 x hx (mem_dropped.1 hx').1⟩
     rw[e1,m3]
     rcases hx with hx | hx | hx <;> simp[hx]
    rcases aE.1 hx with hx | hx
    ·exact .inr (hother (.inl hx))
    ·rcases aE.1 hx with hx | hx
     ·rcases aE.1 hx with hx | hx
      ·exact .inr (hother (.inr (.inl hx)))
      ·exact .inl hx
     ·exact .inr (hother (.inr (.inr hx)))
   ·simp only at g1 g2
    rw[hc]at g1
    cases g1
    have q1':RepB S' w' b y' cs' Fb:=by rw[← k3];exact q1
    have hrep:=m6 ⟨b,y'⟩ dn g2 S' w' Fb hS (fun x hx=>same x (.inr (.inl hx))) (fun x hx=>same x (.inr (.inr hx))) q1'
    obtain⟨z1,z2⟩:=e3 S' w' dn _ (fun x hx=>same x (.inl hx)) hrep (fun hb=>by
     cases q with
     | nil =>
      have hv:=hvs rfl hb
      cases g2
      rw[← hv];exact q2
     | cons st q' =>
      unfold dw at hs
      rw[bz (by rw[hb];decide)]at hs
      exact La g2 hs.2)
    exact⟨z1,fun _ hb cs2 ad2 hroot=>z2 hb cs2 ad2 hroot⟩
def oP:List (PM×BT×Value)→List (DV E.G.T)→List (DV E.G.T)→Prop
 | [],ds,ys=>ds=[]∧ys=[]
 | it::its,ds,ys=>∃ d ds' ys',∃ y:B E.G.T it.2.1,ds=d::ds'∧ys=⟨it.2.1,y⟩::ys'∧coB E.G it.2.1 d=some y∧oP its ds' ys'
theorem nh{b:BT}{bs:List BT}{d:DV E.G.T}{ds:List (DV E.G.T)}{x:Bs E.G.T (b::bs)}(h:fv E (b::bs) (d::ds)=some x):∃ y ys,coB E.G b d=some y∧fv E bs ds=some ys∧x=(y,ys):=by
 unfold fv at h
 split at h
 ·rename_i y ys hy hys
  exact⟨y,ys,hy,hys,(aR h).symm⟩
 ·exact b7 h
theorem Gy:∀ (vits:List (PM×BT×Value)) (ds:List (DV E.G.T)) (x:Bs E.G.T (vits.map fun it=>it.2.1)),fv E (vits.map fun it=>it.2.1) ds=some x→oP (E:=E) vits ds (cL (vits.map fun it=>it.2.1) x)
 | [],[],x,h=>⟨rfl,rfl⟩
 | it::its,d::ds,x,h=>by
  obtain⟨y,ys,hy,hys,hx⟩:=nh (b:=it.2.1) (bs:=its.map fun it=>it.2.1) h
  subst hx
  exact⟨d,ds,_,y,rfl,rfl,hy,Gy its ds ys hys⟩
 | [],_::_,x,h=>b7 h
 | _::_,[],x,h=>b7 h
theorem Ve{S':Nat→Prop}{w':World}{us us':List Use}{ds:List (DV E.G.T)}{R:List Nat}(hl:∀ u∈us,u.lent=true)(h:hY S' w w' σ V us' ds R):hY S' w w' σ V (us++us') ds R:=by
 induction us with
 | nil=>exact h
 | cons u us ih =>
  rw[List.cons_append]
  unfold hY
  rw[bw (hl u (aH ..))]
  exact ih fun v hv=>hl v (aI _ hv)
theorem Jg(h:Ok C σ a w S F V){Lent:Nat→Prop}:∀ (vits:List (PM×BT×Value)) (ds:List (DV E.G.T)) (us:List Use) (P:List Nat) (ys:List (DV E.G.T)),RawItems S w σ F V Lent vits ds us P→P.Nodup→oP (E:=E) vits ds ys →
  ∃ F0 D:List Nat,F0.Nodup∧(∀ x∈F0,x∈P)∧(∀ x∈D,x∈P∧x∉F0)∧(∀ S0:Nat→Prop,(∀ x,S x∨Lent x∨x∈D→S0 x)→fe S0 w vits ys F0) ∧
   ∀ (S':Nat→Prop) (w':World) (outs:List (DV E.G.T)) (Fb:List Nat),(∀ x,S x→S' x∧w'.heap[x]? = w.heap[x]?)→(∀ x∈P,x∉F0→w'.heap[x]? = w.heap[x]?)→ItemsOut S' w' vits outs Fb→Fb.Nodup→(∀ x∈Fb,x∈F0∨x∉P) →
    ∃ R:List Nat,R.Nodup∧(∀ x∈R,x∈Fb∨(x∈P∧x∉F0∧x∉D))∧hY S' w w' σ V us outs R
 | [],ds,us,P,ys,hr,hP,hc=>by
  obtain⟨rfl,rfl,rfl⟩:=hr
  obtain⟨_,rfl⟩:=hc
  refine⟨[],[],List.nodup_nil,fun _ h=>h,fun _ h=>(by cases h),fun S0 _=>⟨rfl,rfl⟩,fun S' w' outs Fb hS hP' hi hn hfb=>?_⟩
  obtain⟨rfl,rfl⟩:=hi
  exact⟨[],List.nodup_nil,fun _ h=>(by cases h),rfl,rfl⟩
 | it::its,ds,us,P,ys,hr,hP,hc=>by
  obtain⟨d,ds',u1,u2,P1,P2,rfl,rfl,rfl,h1,h2⟩:=hr
  obtain⟨d',ds'',ys',y,e1,rfl,hy,hc'⟩:=hc
  cases e1
  have hn:=aF.1 hP
  obtain⟨F1,D1,a1,a2,a3,a4,a5,a6⟩:=UV h h1 hn.1 hy
  obtain⟨F2,D2,b1,b2,b3,b4,b5⟩:=Jg h its ds' u2 P2 ys' h2 hn.2.1 hc'
  have d12:∀ x,x∈P1→x∉P2:=fun x hx hx'=>hn.2.2 x hx x hx' rfl
  refine⟨F1++F2,D1++D2,aF.2 ⟨a1,b1,fun x hx z hz e=>d12 x (a2 x hx) (e ▸ b2 z hz)⟩,fun x hx=>?_,fun x hx=>?_,fun S0 hS=>⟨_,_,F1,F2,rfl,rfl,a4 S0 (fun x hx=>hS x ?_),b4 S0 (fun x hx=>hS x ?_)⟩,?_⟩
  ·rcases aE.1 hx with hx | hx
   ·exact ax _ (a2 x hx)
   ·exact ay _ (b2 x hx)
  ·rcases aE.1 hx with hx | hx
   ·refine⟨ax _ (a3 x hx).1,fun hx'=>?_⟩
    rcases aE.1 hx' with hx' | hx'
    ·exact(a3 x hx).2 hx'
    ·exact d12 x (a3 x hx).1 (b2 x hx')
   ·refine⟨ay _ (b3 x hx).1,fun hx'=>?_⟩
    rcases aE.1 hx' with hx' | hx'
    ·exact d12 x (a2 x hx') (b3 x hx).1
    ·exact(b3 x hx).2 hx'
  ·rcases hx with hx | hx | hx
   ·exact .inl hx
   ·exact .inr (.inl hx)
   ·exact .inr (.inr (ax _ hx))
  ·rcases hx with hx | hx | hx
   ·exact .inl hx
   ·exact .inr (.inl hx)
   ·exact .inr (.inr (ay _ hx))
  ·intro S' w' outs Fb hS hsame hi hnb hfb
   have same1:∀ x∈P1,x∉F1→w'.heap[x]? = w.heap[x]?:=fun x hx hx'=>hsame x (ax _ hx) fun h=>(aE.1 h).elim hx' fun h=>d12 x hx (b2 x h)
   have same2:∀ x∈P2,x∉F2→w'.heap[x]? = w.heap[x]?:=fun x hx hx'=>hsame x (ay _ hx) fun h=>(aE.1 h).elim (fun h=>d12 x (a2 x h) hx) hx'
   have toK1:∀ x,x∈P1∧x∉F1∧x∉D1→x∈P1++P2∧x∉F1++F2∧x∉D1++D2:=fun x ⟨k1,k2,k3⟩=>⟨ax _ k1,fun h=>(aE.1 h).elim k2 fun h=>d12 x k1 (b2 x h),fun h=>(aE.1 h).elim k3 fun h=>d12 x k1 (b3 x h).1⟩
   have toK2:∀ x,x∈P2∧x∉F2∧x∉D2→x∈P1++P2∧x∉F1++F2∧x∉D1++D2:=fun x ⟨k1,k2,k3⟩=>⟨ay _ k1,fun h=>(aE.1 h).elim (fun h=>d12 x (a2 x h) k1) k2,fun h=>(aE.1 h).elim (fun h=>d12 x (a3 x h).1 k1) k3⟩
   cases hbk:it.1.back with
   | false =>
    unfold ItemsOut at hi
    rw[bz (by rw[hbk];decide)]at hi
    obtain⟨R,r1,r2,r3⟩:=b5 S' w' outs Fb hS same2 hi hnb (fun x hx=>by
     rcases hfb x hx with h1 | h1
     ·rcases aE.1 h1 with h1 | h1
      ·exact .inr fun h=>d12 x (a2 x h1) h
      ·exact .inl h1
     ·exact .inr fun h=>h1 (ay _ h))
    exact⟨R,r1,fun x hx=>(r2 x hx).imp id (toK2 x),Ve (a5 hbk) r3⟩
   | true =>
    unfold ItemsOut at hi
    rw[bw hbk]at hi
    obtain⟨dv,outs',Fb1,Fb2,rfl,rfl,i1,i2⟩:=hi
    have hnb':=aF.1 hnb
    obtain⟨u,rfl,hul,hu⟩:=a6 hbk
    obtain⟨R1,r1,r2,r3⟩:=hu S' w' dv Fb1 hS same1 i1 hnb'.1 (fun x hx=>by
     rcases hfb x (ax _ hx)with h1 | h1
     ·rcases aE.1 h1 with h1 | h1
      ·exact .inl h1
      ·exact .inr fun h=>d12 x h (b2 x h1)
     ·exact .inr fun h=>h1 (ax _ h))
    obtain⟨R2,s1,s2,s3⟩:=b5 S' w' outs' Fb2 hS same2 i2 hnb'.2.1 (fun x hx=>by
     rcases hfb x (ay _ hx)with h1 | h1
     ·rcases aE.1 h1 with h1 | h1
      ·exact .inr fun h=>d12 x (a2 x h1) h
      ·exact .inl h1
     ·exact .inr fun h=>h1 (ay _ h))
    refine⟨R1++R2,aF.2 ⟨r1,s1,fun x hx z hz e=>?_⟩,fun x hx=>?_,?_⟩
    ·subst e
     rcases r2 x hx with h1 | h1
     ·rcases s2 x hz with h2 | h2
      ·exact hnb'.2.2 x h1 x h2 rfl
      ·rcases hfb x (ax _ h1)with h3 | h3
       ·exact(toK2 x h2).2.1 h3
       ·exact h3 (toK2 x h2).1
     ·rcases s2 x hz with h2 | h2
      ·rcases hfb x (ay _ h2)with h3 | h3
       ·exact(toK1 x h1).2.1 h3
       ·exact h3 (toK1 x h1).1
      ·exact d12 x h1.1 h2.1
    ·rcases aE.1 hx with hx | hx
     ·exact(r2 x hx).imp (fun h=>ax _ h) (toK1 x)
     ·exact(s2 x hx).imp (fun h=>ay _ h) (toK2 x)
    ·show hY S' w w' σ V (u::u2) (dv::outs') (R1++R2)
     unfold hY
     rw[bz (by rw[hul];decide)]
     exact⟨dv,outs',R1,R2,rfl,rfl,r3,s3⟩
end
end
section
section
variable {G:Gam} {S S2:Nat→Prop} {w:World}
theorem Rep.own:∀ (d:Nat) (t:FT) (x:J G.T t) (cs:List Value) (F:List Nat),Rep S w d true t x cs F→Rep S2 w d true t x cs F:=by
 intro d
 induction d with
 | zero=>intro t x cs F h;exact h.elim
 | succ d ih =>
  intro t x cs F h
  cases t with
  | int k=>exact h
  | bool=>exact h
  | str=>exact h
  | ptr=>exact h
  | sl e =>
   rcases h with h | ⟨b,off,cap,c,E,fz,F',h1,h2,h3,h4,h5⟩
   ·exact .inl h
   ·rw[bw rfl]at h5
    exact .inr ⟨b,off,cap,c,E,fz,F',h1,h2,h3,RepL.mono _ _ _ (fun x _ c G _ h=>ih e x c G h) h4,by rw[bw rfl];exact h5⟩
  | nm n=>exact RepFs.mono _ _ _ _ (fun t _ y c G _ h=>ih t y c G h) h
theorem RepB.own:∀ {b:BT} {x:B G.T b} {cs:List Value} {F:List Nat},b.own G=true→RepB (G:=G) S w b x cs F→RepB S2 w b x cs F
 | .leaf o t,x,cs,F,ho,h=>by
  simp only[BT.own,aY]at ho
  rcases ho with rfl | hf
  ·obtain⟨d,h⟩:=h
   exact⟨d,Rep.own d t x cs F h⟩
  ·obtain⟨e,k⟩:=RepE.flat (show t.flat G.flat=true from hf) (show RepE S w o t x cs F from h) o S2 w
   rw[e];exact k
 | .un,x,cs,F,_,h=>h
 | .pr a b,x,cs,F,ho,⟨c1,c2,F1,F2,h1,h2,h3,h4⟩=>by
  simp only[BT.own,aD]at ho
  exact⟨c1,c2,F1,F2,h1,h2,RepB.own ho.1 h3,RepB.own ho.2 h4⟩
 | .hole n,x,cs,F,_,h=>h
 | .fn k,x,cs,F,_,h=>h
theorem Y5{d:DV G.T}(h:d.b.own G=true):(lq d).b.own G=true:=by
 unfold lq
 split
 ·rename_i b x
  simp only[BT.own,aD]at h
  exact h.2
 ·exact h
theorem RetOK.own{d:DV G.T}{v:Value}{F:List Nat}(ho:d.b.own G=true)(h:RetOK S w d v F):RetOK S2 w d v F:=by
 unfold RetOK at h ⊢
 split
 ·rename_i hb
  rw[bw hb]at h
  obtain⟨blk,c,E,F',h1,h2,h3,h4⟩:=h
  exact⟨blk,c,E,F',h1,h2,h3,RepB.own (Y5 ho) h4⟩
 ·rename_i hb
  rw[bz hb]at h
  exact⟨RepB.own ho h.1,h.2⟩
theorem RetOK.more(hS:∀ b,S b→S2 b){d:DV G.T}{v:Value}{F:List Nat}(h:RetOK S w d v F):RetOK S2 w d v F:=by
 unfold RetOK at h ⊢
 split
 ·rename_i hb
  rw[bw hb]at h
  obtain⟨blk,c,E,F',h1,h2,h3,h4⟩:=h
  exact⟨blk,c,E,F',h1,h2,h3,RepB.frame (fun b hb=>⟨hS b hb,rfl⟩) h4 (fun _ _=>rfl)⟩
 ·rename_i hb
  rw[bz hb]at h
  exact⟨RepB.frame (fun b hb=>⟨hS b hb,rfl⟩) h.1 (fun _ _=>rfl),h.2⟩
theorem RetsOK.own:∀ {ds:List (DV G.T)} {vs:List Value} {F:List Nat},(∀ d∈ds,d.b.own G=true)→RetsOK S w ds vs F→RetsOK S2 w ds vs F
 | [],vs,F,_,h=>h
 | d::ds,vs,F,ho,⟨v,vs',F1,F2,h1,h2,h3,h5⟩=>⟨v,vs',F1,F2,h1,h2,h3.own (ho d (aH ..)),RetsOK.own (fun d' hd=>ho d' (aI _ hd)) h5⟩
theorem RetsOK.more(hS:∀ b,S b→S2 b):∀ {ds:List (DV G.T)} {vs:List Value} {F:List Nat},RetsOK S w ds vs F→RetsOK S2 w ds vs F
 | [],vs,F,h=>h
 | d::ds,vs,F,⟨v,vs',F1,F2,h1,h2,h3,h5⟩=>⟨v,vs',F1,F2,h1,h2,h3.more hS,RetsOK.more hS h5⟩
theorem ItemsOut.own:∀ {its:List (PM×BT×Value)} {ds:List (DV G.T)} {F:List Nat},(∀ d∈ds,d.b.own G=true)→ItemsOut S w its ds F→ItemsOut S2 w its ds F
 | [],ds,F,_,h=>h
 | it::its,ds,F,ho,h=>by
  unfold ItemsOut at h ⊢
  split
  ·rename_i hb
   rw[bw hb]at h
   obtain⟨d,ds',F1,F2,rfl,rfl,h3,h4⟩:=h
   refine⟨d,ds',F1,F2,rfl,rfl,?_,ItemsOut.own (fun d' hd=>ho d' (aI _ hd)) h4⟩
   obtain⟨pm,b,v⟩:=it
   obtain⟨x,rfl,h3⟩:=h3
   have hob:=ho _ (aH ..)
   cases pm with
   | val=>cases hb
   | own=>cases hb
   | io=>exact⟨x,rfl,RepB.own hob h3.1,h3.2⟩
   | ptr =>
    obtain⟨blk,c,E,F',k1,k2,k3,k4⟩:=h3
    exact⟨x,rfl,blk,c,E,F',k1,k2,k3,RepB.own hob k4⟩
  ·rename_i hb
   rw[bz hb]at h
   exact ItemsOut.own ho h
end
theorem Mi:∀ (bs:List BT) (vs:List Value),vs.length=bs.length→(eX bs vs).map (fun it=>it.2.1)=bs
 | [],[],_=>rfl
 | b::bs,v::vs,h=>by simp only[eX,bj];rw[Mi bs vs (by simpa using h)]
 | [],_::_,h=>by simp at h
 | _::_,[],h=>by simp at h
theorem Hb:∀ (ms:List Mode) (vs:List Value) (vits:List (PM×BT×Value)),eO ms vs vits→vits.map (fun it=>it.2.1)=fV ms
 | [],vs,vits,h=>by rw[h.2];rfl
 | m::ms,vs,vits,⟨v,vs',i1,i2,h1,h2,h3,h4⟩=>by
  rw[h2,List.map_append,Hb ms vs' i2 h4]
  show _=m.inp++fV ms
  congr 1
  cases m with
  | clo f bs =>
   obtain⟨ws,_,hl,e⟩:=h3
   rw[e];exact Mi bs ws.toList hl
  | val b=>rw[show i1=_ from h3];rfl
  | own b=>rw[show i1=_ from h3];rfl
  | io b=>rw[show i1=_ from h3];rfl
  | ptr b o=>rw[show i1=_ from h3];rfl
  | ref b o b' o'=>obtain⟨u,e⟩:=h3;rw[e];rfl
section
variable {E:Env} {Fa:cr E.Z} {C:Ctx} {σ σ1:St E.G} {a:Act} {w:World} {S:Nat→Prop} {F:Nat→List Nat} {V:Nat→Value} {L:List Nat} {fn:Fn}
theorem LH{T:Nat→Type}:∀ (bs:List BT) (x:Bs T bs) (d:DV T),d∈cL bs x→d.b∈bs
 | [],x,d,h=>by cases h
 | b::bs,x,d,h=>by
  rcases aO.1 h with rfl | h
  ·exact aH ..
  ·exact aI _ (LH bs x.2 d h)
theorem Ok.more(h:Ok C σ a w S F V){S2:Nat→Prop}(hS:∀ b,S b→S2 b)(hn:∀ s,∀ b∈F s,nfz (σ.slot s)=true→¬ S2 b)(hb:∀ b,S2 b→b<w.heap.size)(hf:∀ b,S2 b→C.S0 b∨b∈C.F0∨C.w0.heap.size≤b):Ok C σ a w S2 F V:=by
 have hS':∀ b,S b→S2 b∧w.heap[b]? = w.heap[b]?:=fun b hb=>⟨hS b hb,rfl⟩
 have ht:∀ s,kg w w (σ.slot s) (σ.slot s) (V s) (V s) (F s):=fun s=>.inl ⟨rfl,rfl,fun _ _=>rfl⟩
 exact { h with
  pins:=fun t=>iA h.slots hS' ht _ _ (h.pins t)
  slots:=fun s=>qF h.slots hS' ht rfl rfl (fun _ _=>rfl)
  notS:=hn
  bndS:=hb
  fromS:=hf
  inS:=fun b hb=>hS b (h.inS b hb) }
theorem xu(h:Ok C σ a w S F V){np s g:Nat}{bx:Bool}{d:DV E.G.T}(hm:(fa (E:=E) np s bx none (.data d)).run Fa σ=some (g,σ1))(v:Value):∀ q u,b9 S w σ.slot V q u→b9 S w σ1.slot (upd V s v) q u:=by
 obtain⟨h1,rfl,rfl⟩:=nL hm
 intro q u hq
 refine iA h.slots (fun b hb=>⟨hb,rfl⟩) (fun s'=>?_) q u hq
 rw[St.setS_slot]
 by_cases e:s'=s
 ·subst e;rw[ck,ck];exact .inr ⟨Nat.lt_succ_self _,.inl (Nat.lt_succ_self _)⟩
 ·rw[cj _ _ e,cj _ _ e];exact .inl ⟨rfl,rfl,fun _ _=>rfl⟩
theorem Ze(hnp:fn.np=C.np)(h:Ok C σ a w S F V){Fd:List Nat}(hL:Loose C w S F (Fd++L)){d:DV E.G.T}{v:Value}(hr:RepB S w d.b d.x v.cells.toList Fd)(hsh:Shaped d.b v){s:Nat}{frz:Bool}{p:bX E}
  (hm:(lu (E:=E) fn s frz d).run Fa σ=some (p,σ1)):∃ S' F' V',(∀ b,S b→S' b)∧Ok C σ1 a w S' F' V'∧b9 S' w σ1.slot V' p v∧Loose C w S' F' L∧∀ q u,b9 S w σ.slot V q u→b9 S' w σ1.slot V' q u:=by
 unfold lu at hm
 cases hc:d.b.cp E.G with
 | true =>
  rw[hc]at hm
  obtain⟨rfl,rfl⟩:=aB (F:=Fa) hm
  obtain⟨h1,h2,rfl⟩:=rv hc hr
  exact⟨S,F,V,fun _ h=>h,h,⟨h1,rx hsh,h2⟩,hL,fun _ _ h=>h⟩
 | false =>
  rw[hc]at hm
  cases frz with
  | true =>
   obtain⟨b,x⟩:=d
   cases b with
   | leaf o t =>
    obtain⟨rfl,rfl⟩:=aB (F:=Fa) hm
    obtain⟨h1,h2⟩:=h.share hL
    refine⟨_,F,V,fun _ h=>.inl h,h1,⟨?_,by cases t <;> exact hsh,rfl⟩,h2,fun q u hq=>iA h.slots (fun b hb=>⟨.inl hb,rfl⟩) (fun s=>.inl ⟨rfl,rfl,fun _ _=>rfl⟩) q u hq⟩
    exact RepE.freeze (show RepE S w o t x _ Fd from hr) (fun _ h=>.inl h) fun b hb=>.inr hb
   | _=>exact aA (F:=Fa) hm
  | false =>
   obtain⟨g,σ',h1,h2⟩:=az (show M.run Fa ((fa (E:=E) fn.np s false none (.data d)).bind fun g=>.ret (.ali s [] g)) σ=some (p,σ1)from hm)
   obtain⟨rfl,rfl⟩:=aB (F:=Fa) h2
   have hpins:=xu h h1 v
   obtain⟨k0,rfl,rfl⟩:=nL h1
   rw[hnp]at k0
   obtain⟨k2,k3⟩:=h.make hL k0 (x':=⟨(σ.slot s).gen+1,(σ.slot s).gen+1,false,none,.data d⟩) rfl rfl (v':=v) (by
    unfold cO
    simp only
    rw[bz (by simp)]
    exact⟨hr,hsh⟩) (fun i h=>by cases h)
   exact⟨S,_,_,fun _ h=>h,k2,xH (by rw[St.setS_slot,ck]) (ck _ _ _) hsh,k3,hpins⟩
theorem Zd(hnp:fn.np=C.np)(h:Ok C σ a w S F V){Fd:List Nat}(hL:Loose C w S F (Fd++L)){d:DV E.G.T}{v:Value}(hr:RepB S w d.b d.x v.cells.toList Fd)(hsh:Shaped d.b v){s k:Nat}{p:bX E}
  (hm:(uG (E:=E) fn s k d).run Fa σ=some (p,σ1)):∃ S' F' V',(∀ b,S b→S' b)∧Ok C σ1 a w S' F' V'∧b9 S' w σ1.slot V' p v∧Loose C w S' F' L∧∀ q u,b9 S w σ.slot V q u→b9 S' w σ1.slot V' q u:=by
 unfold uG at hm
 cases hc:(Nat.beq k 8 && !d.b.cp E.G) with
 | false=>rw[hc]at hm;exact Ze hnp h hL hr hsh hm
 | true =>
  rw[hc]at hm
  obtain⟨g,σ',h1,h2⟩:=az (show M.run Fa ((fa (E:=E) fn.np s false none (.data d)).bind fun g=>(wd s).bind fun _=>.ret (.ali s [] g)) σ=some (p,σ1)from hm)
  obtain⟨_,σ2,h3,h4⟩:=az h2
  obtain⟨rfl,rfl⟩:=aB (F:=Fa) h4
  have hpins:=xu h h1 v
  obtain⟨k0,rfl,rfl⟩:=nL h1
  rw[hnp]at k0
  obtain⟨k2,k3⟩:=h.make hL k0 (x':=⟨(σ.slot s).gen+1,(σ.slot s).gen+1,false,none,.data d⟩) rfl rfl (v':=v) (by
   unfold cO
   simp only
   rw[bz (by simp)]
   exact⟨hr,hsh⟩) (fun i h=>by cases h)
  have hp:b9 S w (σ.setS s ⟨(σ.slot s).gen+1,(σ.slot s).gen+1,false,none,.data d⟩).slot (upd V s v) (.ali s [] ((σ.slot s).gen+1)) v:=xH (by rw[St.setS_slot,ck]) (ck _ _ _) hsh
  obtain⟨q1,q2,q3⟩:=OJ k2 k3 h3
  exact⟨_,_,_,fun _ h=>.inl h,q1,q3 _ _ hp,q2,fun q u hq=>q3 q u (hpins q u hq)⟩
theorem Zc(hnp:fn.np=C.np)(h:Ok C σ a w S F V){Fd:List Nat}(hL:Loose C w S F (Fd++L)){d:DV E.G.T}{v:Value}(hb:dT d.b=true)(hr:RetOK S w d v Fd){s:Nat}{p:bX E}
  (hm:((fa (E:=E) fn.np s true none (.data (lq d))).bind fun g=>.ret (.ptr s [] 0 g)).run Fa σ=some (p,σ1)):∃ F' V',Ok C σ1 a w S F' V'∧b9 S w σ1.slot V' p v∧Loose C w S F' L∧∀ q u,b9 S w σ.slot V q u→b9 S w σ1.slot V' q u:=by
 unfold RetOK at hr
 rw[bw hb]at hr
 obtain⟨blk,c,E0,F',r1,r2,r3,r4⟩:=hr
 obtain⟨g,σ',h1,h2⟩:=az hm
 obtain⟨rfl,rfl⟩:=aB (F:=Fa) h2
 have hpins:=xu h h1 v
 obtain⟨k0,rfl,rfl⟩:=nL h1
 rw[hnp]at k0
 obtain⟨k2,k3⟩:=h.make hL k0 (x':=⟨(σ.slot s).gen+1,(σ.slot s).gen+1,true,none,.data (lq d)⟩) rfl rfl (v':=v) (by
  unfold cO
  simp only
  rw[bw (by simp)]
  exact⟨blk,c,E0,F',r1,r2,r3,r4⟩) (fun i h=>by cases h)
 refine⟨_,_,k2,?_,k3,hpins⟩
 refine⟨⟨by rw[St.setS_slot,ck];exact aK _,blk,0,r1⟩,fun _ _=>⟨by rw[St.setS_slot,ck],blk,by rw[ck];exact r1,r1⟩,fun hne=>by cases hne⟩
theorem LM(hnp:fn.np=C.np)(d frz:Nat):∀ (ds:List (DV E.G.T)) (j:Nat) (vs:List Value) (Fr:List Nat) (σ σ1:St E.G) (S:Nat→Prop) (F:Nat→List Nat) (V:Nat→Value) (ws:List (bX E)),Ok C σ a w S F V→Loose C w S F (Fr++L)→RetsOK S w ds vs Fr →
  (qN (E:=E) fn d frz j ds).run Fa σ=some (ws,σ1)→∃ S' F' V',Ok C σ1 a w S' F' V'∧PinsOK S' w σ1.slot V' ws vs∧∀ q u,b9 S w σ.slot V q u→b9 S' w σ1.slot V' q u
 | [],j,vs,Fr,σ,σ1,S,F,V,ws,h,hL,hr,hm=>by
  obtain⟨rfl,rfl⟩:=hr
  obtain⟨rfl,rfl⟩:=aB (F:=Fa) hm
  exact⟨S,F,V,h,rfl,fun _ _ h=>h⟩
 | x::ds,j,vs,Fr,σ,σ1,S,F,V,ws,h,hL,hr,hm=>by
  obtain⟨v,vs',F1,F2,rfl,rfl,h1,h3⟩:=hr
  obtain⟨p,σ2,h4,h5⟩:=az hm
  obtain⟨ps,σ3,h6,h7⟩:=az h5
  obtain⟨rfl,rfl⟩:=aB (F:=Fa) h7
  rw[List.append_assoc]at hL
  have hword:∃ S' F' V',(∀ b,S b→S' b)∧Ok C σ2 a w S' F' V'∧b9 S' w σ2.slot V' p v∧Loose C w S' F' (F2++L)∧∀ q u,b9 S w σ.slot V q u→b9 S' w σ2.slot V' q u:=by
   cases hh:iu x.b with
   | true =>
    rw[hh]at h4
    obtain⟨rfl,rfl⟩:=aB (F:=Fa) (show M.run Fa (M.ret .one:ME E (bX E)) σ=some (p,σ2)from h4)
    obtain⟨xb,xx⟩:=x
    obtain rfl:xb = .hole 1:=by
     cases xb with
     | hole n=>rw[show n=1 from Nat.eq_of_beq_eq_true hh]
     | _=>cases hh
    unfold RetOK at h1
    rw[bz (show ¬ dT (.hole 1)=true by decide)]at h1
    obtain⟨⟨_,l2⟩,_,l1⟩:=h1
    rw[l2]at hL
    exact⟨S,F,V,fun _ h=>h,h,l1 rfl,hL,fun _ _ h=>h⟩
   | false =>
   rw[hh]at h4
   replace h4:M.run Fa (bif dT x.b then(fa (E:=E) fn.np (16*d+j) true none (.data (lq x))).bind fun g=>.ret (.ptr (16*d+j) [] 0 g)else uG fn (16*d+j) frz x) σ=some (p,σ2):=h4
   cases hb:dT x.b with
   | true =>
    rw[hb]at h4
    obtain⟨F',V',k1,k2,k3,k4⟩:=Zc hnp h hL hb h1 h4
    exact⟨S,F',V',fun _ h=>h,k1,k2,k3,k4⟩
   | false =>
    rw[hb]at h4
    unfold RetOK at h1
    rw[bz (by rw[hb];decide)]at h1
    exact Zd hnp h hL h1.1 h1.2.1 h4
  obtain⟨S2,G2,V2,k1,k2,k3,k4,k5⟩:=hword
  obtain⟨S3,G3,V3,m1,m2,m3⟩:=LM hnp d frz ds (j+1) vs' F2 _ _ S2 G2 V2 ps k2 k4 (h3.more k1) h6
  exact⟨S3,G3,V3,m1,⟨v,vs',rfl,m3 _ _ k3,m2⟩,fun q u hq=>m3 q u (k5 q u hq)⟩
theorem Zf{sl:Nat→Slot E.Z.G}{ws:List (bX E)}{vs:List Value}(h:PinsOK S w sl V ws vs):b9 S w sl V (uH ws) (qh vs):=by
 cases ws with
 | nil =>
  have:vs=[]:=h
  subst this
  exact⟨#[],rfl,rfl⟩
 | cons p ps =>
  have h0:=h
  obtain⟨v,vs',rfl,h1,h2⟩:=h
  cases ps with
  | nil =>
   have:vs'=[]:=h2
   subst this
   exact h1
  | cons q qs =>
   obtain⟨u,vs'',rfl,h3,h4⟩:=h2
   exact⟨(v::u::vs'').toArray,rfl,h0⟩
theorem FQ:∀ (us:List Use),rf us=true→(dS us).Pairwise (fun u v=>u.s≠v.s)∧(∀ u∈us,∀ v∈us,u.lent=true→v.lent=false→u.s≠v.s)
 | [],_=>⟨List.Pairwise.nil,fun _ h=>by cases h⟩
 | u::us,h=>by
  simp only[rf,aD,List.all_eq_true]at h
  obtain⟨h1,h2⟩:=h
  obtain⟨k1,k2⟩:=FQ us h2
  have hne:∀ v∈us,(u.lent&&v.lent)=false→u.s≠v.s:=by
   intro v hv hl e
   have:=h1 v hv
   rw[hl,e]at this
   simp at this
  refine⟨?_,fun x hx y hy hlx hly=>?_⟩
  ·cases hl:u.lent with
   | true=>unfold dS;rw[List.filter_cons_of_neg (by simp[hl])];exact k1
   | false =>
    unfold dS
    rw[List.filter_cons_of_pos (by simp[hl])]
    refine List.pairwise_cons.2 ⟨fun v hv=>?_,k1⟩
    have hv':=List.mem_filter.1 hv
    exact hne v hv'.1 (by simp[hl])
  ·rcases aO.1 hx with hx2 | hx2
   ·rcases aO.1 hy with hy2 | hy2
    ·rw[hx2]at hlx;rw[hy2,hlx]at hly;cases hly
    ·rw[hx2];exact hne y hy2 (by simp[hly])
   ·rcases aO.1 hy with hy2 | hy2
    ·rw[hy2]at hly ⊢;exact fun e=>hne x hx2 (by simp[hly]) e.symm
    ·exact k2 x hx2 y hy2 hlx hly
theorem Jl{Lent:Nat→Prop}:∀ (vits:List (PM×BT×Value)) (ds:List (DV E.G.T)) (us:List Use) (P:List Nat),RawItems S w σ F V Lent vits ds us P→∀ u∈dS us,∃ d,(σ.slot u.s).cont = .data d
 | [],ds,us,P,h,u,hu=>by rw[h.2.1]at hu;cases hu
 | it::its,ds,us,P,⟨d,ds',u1,u2,P1,P2,h1,h2,h3,h4,h5⟩,u,hu=>by
  rw[h2,FX]at hu
  rcases aE.1 hu with hu | hu
  ·obtain⟨pm,b,v⟩:=it
   cases pm with
   | val =>
    obtain⟨_,_,hl,_⟩:=h4
    rw[FY hl]at hu;cases hu
   | own=>rw[h4.1]at hu;cases hu
   | io =>
    obtain⟨s,q,d0,e,hc,_⟩:=h4
    rw[e]at hu
    have:u=⟨s,q,false,true⟩:=by simpa [dS]using hu
    subst this
    exact⟨d0,hc⟩
   | ptr =>
    obtain⟨s,blk,e,hc,_⟩:=h4
    rw[e]at hu
    have:u=⟨s,[],false,false⟩:=by simpa [dS]using hu
    subst this
    exact⟨d,hc⟩
  ·exact Jl its ds' u2 P2 h5 u hu
theorem Ne(hnp:fn.np=C.np)(hnt:fn.nt=C.nt)(hF:qY E C.P Fa)(hG:Laid C.P E.tabs C.S0 C.w0)(hA0:∀ b,C.S0 b→b∉C.F0∧b<C.w0.heap.size)(h:Ok C σ a w S F V){f:FuncId}{fo:Operand}{xs:List Operand}{cl:List FuncId}{dst:Option Tmp}(hm:(vA (E:=E) fn f fo xs cl dst).run Fa σ=some ((),σ1)) :
  ∃ vsc:Array Value,a.eval fo = .func (.func f) #[] vsc∧Does C.P f ((xs.map a.eval).toArray++vsc) w fun v w'=>∃ S' F' V',Ok C σ1 (a.put dst v) w' S' F' V':=by
 unfold vA at hm
 cases hent:E.ent f cl with
 | none=>rw[hent]at hm;exact aA (F:=Fa) hm
 | some kk =>
 obtain⟨k,ms,nres⟩:=kk
 rw[hent]at hm
 obtain⟨ts,σ2,h1,h2⟩:=az hm
 obtain⟨F1,Lo,t1,t2,t3⟩:=YT ms xs σ σ2 F [] ts h Loose.nil h1
 rw[aL]at t2
 obtain⟨ps,σ3,h3,h4⟩:=az h2
 obtain⟨rfl,p1⟩:=p9 t1 xs ps σ3 h3
 obtain⟨p,σ4,h5,h6⟩:=az h4
 obtain⟨rfl,p2⟩:=cY t1 h5
 cases p with
 | clo f' cs =>
  obtain⟨hff,h7⟩:=aC (F:=Fa) h6
  have:=cn hff
  subst this
  obtain⟨vsc,hv,p3⟩:=p2
  refine⟨vsc,hv,?_⟩
  obtain⟨qs,σ8,hi1,h7b⟩:=az h7
  obtain⟨hi3,hi2⟩:=Ig t1 ms (ps++cs) qs _ σ8 (PinsOK.app p1 p3) hi1
  subst hi3
  cases hfl:nn ms (ps++cs) qs with
  | none=>rw[hfl]at h7b;exact aA (F:=Fa) h7b
  | some its =>
  rw[hfl]at h7b
  obtain⟨vits,v1,v2,v4,v5⟩:=G9 hfl (PinsOK.app p1 p3) hi2
  have v3:=mV ms _ _ ts Lo vits t3 v1
  obtain⟨rd,σ5,h8,h9⟩:=az h7b
  obtain⟨rfl,P,r1,r2,r3⟩:=Jm t1 its vits ts Lo rd.1 rd.2 σ5 v2 v3 h8
  obtain⟨hap,h10⟩:=aC h9
  simp only[aD,aY]at hap
  obtain⟨hap1,hap2⟩:=hap
  obtain⟨a1,a2⟩:=FQ _ hap1
  obtain⟨hinp,hfun⟩:=hF f cl k ms nres hent
  cases hco:fv E (E.Z.inp k) rd.1 with
  | none=>rw[hco]at h10;exact aA (F:=Fa) h10
  | some x =>
  rw[hco]at h10
  simp only at h10
  have h11:(Fa k x).bind (fun y=>M.run Fa ((kj (E:=E) rd.2 ((cL (E.Z.out k) y).drop nres)).bind fun _=>(kU (E:=E) ms (ps++cs) qs).bind fun _=>match dst with
      | none=>.ret ()
      | some d=>(qN fn d (fn.ann d) 0 ((cL (E.Z.out k) y).take nres)).bind fun ws=>dC fn (some d) (uH ws)) σ5)=some ((),σ1):=h10
  cases hy:Fa k x with
  | none=>rw[hy]at h11;exact b7 h11
  | some y =>
  rw[hy]at h11
  have h12:M.run Fa ((kj (E:=E) rd.2 ((cL (E.Z.out k) y).drop nres)).bind fun _=>(kU (E:=E) ms (ps++cs) qs).bind fun _=>match dst with
      | none=>.ret ()
      | some d=>(qN fn d (fn.ann d) 0 ((cL (E.Z.out k) y).take nres)).bind fun ws=>dC fn (some d) (uH ws)) σ5=some ((),σ1):=h11
  have hbs:E.Z.inp k=vits.map fun it=>it.2.1:=hinp.trans (Hb ms _ vits v1).symm
  have hall:oP (E:=E) vits rd.1 (cL (E.Z.inp k) x):=by
   have key:∀ (bs:List BT) (hb:bs=vits.map fun it=>it.2.1) (x:Bs E.G.T bs),fv E bs rd.1=some x→oP (E:=E) vits rd.1 (cL bs x):=by
    intro bs hb
    subst hb
    exact fun x hx=>Gy vits rd.1 x hx
   exact key _ hbs x hco
  obtain⟨σk,Fk,k1,k2,k3,k4,k5⟩:=xa (dS rd.2) σ5 F1 Lo t1 t2 (Jl _ _ _ _ r1) a1
  have memP:∀ z,z∈P↔z∈(dS rd.2).flatMap (fun u=>F1 u.s)++Lo:=fun z=>r2.mem_iff
  have hPn:P.Nodup:=r2.nodup_iff.2 k2.nd
  have pS:∀ z∈P,¬ S z:=fun z hz=>k2.notS z ((memP z).1 hz)
  have pB:∀ z∈P,z<w.heap.size:=fun z hz=>k2.bnd z ((memP z).1 hz)
  have pF:∀ z∈P,z∈C.F0∨C.w0.heap.size≤z:=fun z hz=>k2.fromF z ((memP z).1 hz)
  have pK:∀ s,∀ z∈Fk s,z∉P:=fun s z hz hz'=>k2.apart s z hz ((memP z).1 hz')
  have lentK:∀ z,gQ F1 rd.2 z→∃ s,z∈Fk s:=by
   rintro z ⟨u,hu,hl,hz⟩
   refine⟨u.s,?_⟩
   rw[(k4 u.s fun v hv=>?_).2]
   ·exact hz
   ·have hv':=List.mem_filter.1 hv
    exact fun e=>a2 u hu v hv'.1 hl (by simpa using hv'.2) e.symm
  obtain⟨F0,D,q1,q2,q3,q4,q5⟩:=Jg t1 (Lent:=gQ F1 rd.2) vits rd.1 rd.2 P _ r1 hPn hall
  have hdoes:=hfun x y hy w (fun z=>S z∨gQ F1 rd.2 z∨z∈D) F0 (xs.map a.eval++vsc.toList) vits v1 v4 (q4 _ fun z hz=>hz) q1
   (fun z hz=>⟨fun hz'=>by
    rcases hz' with h1 | h1 | h1
    ·exact pS z (q2 z hz) h1
    ·obtain⟨s,hs⟩:=lentK z h1
     exact pK s z hs (q2 z hz)
    ·exact(q3 z h1).2 hz,pB z (q2 z hz)⟩)
   (fun z hz=>by
    rcases hz with h1 | h1 | h1
    ·exact t1.bndS z h1
    ·obtain⟨s,hs⟩:=lentK z h1
     exact k1.bnd s z hs
    ·exact pB z (q3 z h1).1) (hG.same (fun z hz=>.inl (h.inS z hz)) fun z hz=>h.keep z (hA0 z hz).2 (hA0 z hz).1)
  have hargs:((xs.map a.eval).toArray++vsc)=(xs.map a.eval++vsc.toList).toArray:=by apply Array.ext';simp
  rw[hargs]
  refine hdoes.mono fun v w' haft=>?_
  obtain⟨S',vs,Fr,Fb,hvv,hrets,houts,hnd,hnew,hS1,hS2,hkeep,hgrow,hos,htape,hout,hlinks⟩:=haft
  have same:∀ z,z<w.heap.size→z∉F0→w'.heap[z]? = w.heap[z]?:=hkeep
  obtain⟨Sn,n1,n2,n3,n4,n5⟩:∃ Sn:Nat→Prop,(∀ z,S z→Sn z)∧(∀ z,Sn z→z<w'.heap.size∧(S z∨z∈D∨z∈F0∨w.heap.size≤z))∧(∀ z∈Fr++Fb,¬ Sn z)∧RetsOK Sn w' ((cL (E.Z.out k) y).take nres) vs Fr∧ItemsOut Sn w' vits ((cL (E.Z.out k) y).drop nres) Fb:=by
   rcases hap2 with hl | ho
   ·have hno:∀ z,¬ gQ F1 rd.2 z:=by
     rintro z ⟨u,hu,hlu,_⟩
     have:=List.all_eq_true.1 hl u hu
     rw[hlu]at this;cases this
    refine⟨S',fun z hz=>hS1 z (.inl hz),fun z hz=>?_,fun z hz=>(hnew z hz).1,hrets,houts⟩
    obtain⟨g1,g2⟩:=hS2 z hz
    refine⟨g1,?_⟩
    rcases g2 with (g2 | g2 | g2) | g2 | g2
    ·exact .inl g2
    ·exact absurd g2 (hno z)
    ·exact .inr (.inl g2)
    ·exact .inr (.inr (.inl g2))
    ·exact .inr (.inr (.inr g2))
   ·have hown:∀ d∈cL (E.Z.out k) y,d.b.own E.G=true:=fun d hd=>List.all_eq_true.1 ho d.b (LH _ _ d hd)
    refine⟨S,fun z hz=>hz,fun z hz=>⟨Nat.lt_of_lt_of_le (t1.bndS z hz) hgrow,.inl hz⟩,fun z hz hz'=>?_,RetsOK.own (fun d hd=>hown d (List.mem_of_mem_take hd)) hrets,ItemsOut.own (fun d hd=>hown d (List.mem_of_mem_drop hd)) houts⟩
    exact(hnew z hz).1 (hS1 z (.inl hz'))
  have kw:Ok C σk a w' S Fk V:=k1.world (fun z hz=>same z (t1.bndS z hz) fun hz'=>pS z (q2 z hz') hz) (fun s z hz=>same z (k1.bnd s z hz) fun hz'=>pK s z hz (q2 z hz')) hgrow
   (fun z hz hz'=>same z (Nat.lt_of_lt_of_le hz k1.grow) fun hz2=>by
    rcases pF z (q2 z hz2)with h1 | h1
    ·exact hz' h1
    ·omega) hos htape hout
  have km:Ok C σk a w' Sn Fk V:=by
   refine kw.more n1 (fun s z hz hnz hz'=>?_) (fun z hz=>(n2 z hz).1) (fun z hz=>?_)
   ·have hlt:=k1.bnd s z hz
    rcases(n2 z hz').2 with g | g | g | g
    ·exact k1.notS s z hz hnz g
    ·exact pK s z hz (q3 z g).1
    ·exact pK s z hz (q2 z g)
    ·omega
   ·rcases(n2 z hz).2 with g | g | g | g
    ·exact t1.fromS z g
    ·exact .inr (pF z (q3 z g).1)
    ·exact .inr (pF z (q2 z g))
    ·exact .inr (.inr (Nat.le_trans t1.grow g))
  have hnd':=aF.1 hnd
  obtain⟨R,e1,e2,e3⟩:=q5 Sn w' _ Fb (fun z hz=>⟨n1 z hz,same z (t1.bndS z hz) fun hz'=>pS z (q2 z hz') hz⟩) (fun z hz hz'=>same z (pB z hz) hz') n5 hnd'.2.1 (fun z hz=>by
   rcases(hnew z (ay _ hz)).2.2 with g | g
   ·exact .inl g
   ·exact .inr fun hz'=>by have:=pB z hz';omega)
  have hLR:Loose C w' Sn Fk (R++(Fr++[])):=by
   rw[aL]
   have kindR:∀ z∈R++Fr,(z∈Fr++Fb)∨(z∈P∧z∉F0∧z∉D):=by
    intro z hz
    rcases aE.1 hz with hz | hz
    ·exact(e2 z hz).imp (fun g=>ay _ g) id
    ·exact .inl (ax _ hz)
   refine⟨aF.2 ⟨e1,hnd'.1,fun z hz z' hz' e=>?_⟩,fun s z hz hz'=>?_,fun z hz hz'=>?_,fun z hz=>?_,fun z hz=>?_⟩
   ·subst e
    rcases e2 z hz with g | g
    ·exact hnd'.2.2 z hz' z g rfl
    ·rcases(hnew z (ax _ hz')).2.2 with g' | g'
     ·exact g.2.1 g'
     ·have:=pB z g.1;omega
   ·rcases kindR z hz' with g | g
    ·rcases(hnew z g).2.2 with g' | g'
     ·exact pK s z hz (q2 z g')
     ·have:=k1.bnd s z hz;omega
    ·exact pK s z hz g.1
   ·rcases kindR z hz with g | g
    ·exact n3 z g hz'
    ·rcases(n2 z hz').2 with g' | g' | g' | g'
     ·exact pS z g.1 g'
     ·exact g.2.2 g'
     ·exact g.2.1 g'
     ·have:=pB z g.1;omega
   ·rcases kindR z hz with g | g
    ·exact(hnew z g).2.1
    ·exact Nat.lt_of_lt_of_le (pB z g.1) hgrow
   ·rcases kindR z hz with g | g
    ·rcases(hnew z g).2.2 with g' | g'
     ·exact pF z (q2 z g')
     ·exact .inr (Nat.le_trans t1.grow g')
    ·exact pF z g.1
  obtain⟨_,σ6,h13,h14⟩:=az h12
  obtain⟨F2,g1,g2⟩:=xY t1.orig rd.2 _ R σ5 σk σ6 Fk (Fr++[]) e3 a1 km hLR k3 (fun s hs=>(k4 s hs).1) (fun u hu=>⟨rfl,k5 u hu⟩) h13
  obtain⟨_,σ9,h18,h14⟩:=az h14
  obtain⟨g1,g3⟩:=sN ms (ps++cs) qs vits σ6 σ9 g1 hlinks v5 h18
  cases dst with
  | none =>
   obtain⟨_,rfl⟩:=aB (F:=Fa) h14
   exact⟨Sn,F2,V,g1⟩
  | some d =>
   obtain⟨ws,σ7,h15,h16⟩:=az h14
   obtain⟨S3,F3,V3,m1,m2,m3⟩:=LM hnp d (fn.ann d) _ 0 vs Fr σ9 σ7 Sn F2 V ws g1 g2 n4 h15
   obtain⟨hd,h17⟩:=aC (F:=Fa) h16
   have hd':d<C.nt:=by rw[← hnt];exact aG hd
   cases h17
   rw[hvv]
   exact⟨S3,F3,V3,m1.setP hd' (Zf m2)⟩
 | _=>exact aA (F:=Fa) h6
end
end
section
section
variable {E:Env} {Fa:cr E.Z} {C:Ctx} {σ σ1 σ2:St E.G} {a:Act} {w:World} {S:Nat→Prop} {F:Nat→List Nat} {V:Nat→Value} {L:List Nat} {fn:Fn}
theorem uo(hnt:fn.nt=C.nt){dst:Option Tmp}{r:bX E}{v:Value}(h:Ok C σ2 a w S F V)(hp:b9 S w σ2.slot V r v)(hm:(dC (E:=E) fn dst r).run Fa σ2=some ((),σ1)):df C σ1 (a.put dst v) w:=by
 cases dst with
 | none=>obtain⟨_,rfl⟩:=aB (F:=Fa) hm;exact⟨S,F,V,h⟩
 | some d =>
  obtain⟨hd,h17⟩:=aC (F:=Fa) hm
  have hd':d<C.nt:=by rw[← hnt];exact aG hd
  cases h17
  exact⟨S,F,V,h.setP hd' hp⟩
theorem eM(hnt:fn.nt=C.nt){o:Oper}{s:Sem Value}(hs:execOp a.eval o=(do pure (Next.value (← s)))){r:bX E}(hr:Res C a σ2 r s w)(hm:(dC (E:=E) fn o.dst r).run Fa σ2=some ((),σ1)){next:Act→World→Prop}{Q:Exit→Act→World→Prop}(hn:∀ a' w',df C σ1 a' w'→next a' w') :
  o.wp C.P a w next Q:=by
 obtain⟨v,w',h1,S',F',V',h2,h3⟩:=hr
 unfold Oper.wp
 rw[hs,Sem.run_bind,h1]
 exact hn _ _ (uo hnt h2 h3 hm)
theorem xM(hnt:fn.nt=C.nt){o:Oper}{v:Value}(hs:execOp a.eval o=pure (Next.value v))(h:Ok C σ2 a w S F V){r:bX E}(hp:b9 S w σ2.slot V r v)(hm:(dC (E:=E) fn o.dst r).run Fa σ2=some ((),σ1)){next:Act→World→Prop}{Q:Exit→Act→World→Prop}(hn:∀ a' w',df C σ1 a' w'→next a' w') :
  o.wp C.P a w next Q:=by
 unfold Oper.wp
 rw[hs]
 exact hn _ _ (uo hnt h hp hm)
structure Base (E:Env) (Fa:cr E.Z) (C:Ctx) (fn:Fn):Prop where
 np:fn.np=C.np
 nt:fn.nt=C.nt
 ty:∀ t ft,E.ty t=some ft→dh E.G C.P E.ty t ft=true
 ifc:∀ t,E.ifc t=true→mf C.P t=true
 fnt:∀ t,E.fnt t=true→nG C.P t=true
 fns:qY E C.P Fa
 gl:Laid C.P E.tabs C.S0 C.w0
 gs:∀ b,C.S0 b→b∉C.F0∧b<C.w0.heap.size
theorem M2{α:Type}{b:Bool}{k:Bool→ME E α}{x:α}(h:(M.br b k:ME E α).run Fa σ=some (x,σ1)):(k b).run Fa σ=some (x,σ1):=by
 cases b <;> exact h
theorem T3(h:Ok C σ a w S F V){dst:Option Tmp}{x:Operand}{p:bX E}(hm:(xt (E:=E) fn dst x).run Fa σ=some (p,σ1)):Ok C σ1 a w S F V∧b9 S w σ1.slot V p (a.eval x):=by
 unfold xt at hm
 split at hm
 ·rename_i d t
  cases hann:Nat.beq (fn.ann d) 10 with
  | false =>
   rw[hann]at hm
   obtain⟨rfl,h5⟩:=cY h (show(opd (.tmp t)).run Fa σ=some (p,σ1)from hm)
   exact⟨h,h5⟩
  | true =>
   rw[hann,cond_true,M.run_getP]at hm
   obtain⟨v,σ2,h1,h2⟩:=az hm
   have hp:=h.pins t
   obtain⟨rfl,hwh,hsh,Fd,hr,_,_⟩:=sL h hp h1 (S':=fun b=>S b∨∃ s,b∈F s) (fun b hb=>.inl hb) (fun s _ b hb=>.inr ⟨s,hb⟩)
   split at h2
   ·rename_i o e l
    rw[M.run_setP]at h2
    obtain⟨rfl,rfl⟩:=aB (F:=Fa) h2
    have hsh':∀ cs,a.tmps.getD t undef ≠ .agg cs:=hsh
    rw[dP hsh']at hr
    obtain⟨l',hl'⟩:∃ l':List (J E.G.T e),l'=l:=⟨l,rfl⟩
    subst hl'
    refine⟨h.repin ?_,hp⟩
    rcases repE_sl.1 (show RepE _ w o (.sl e) l' [a.tmps.getD t undef] Fd from hr)with ⟨e1,e2,_⟩ | ⟨b,off,cap,c,E0,fz,F',e1,e2,e3,e4,e5⟩
    ·obtain⟨base,cap,e1,_⟩:=e1
     refine⟨⟨base,cap,?_⟩,by rw[e2];exact Nat.zero_le _⟩
     rw[e2];simpa using e1
    ·refine⟨⟨_,cap,by simpa using e1⟩,?_⟩
     split at e5
     ·obtain⟨_,_,_,e6,_⟩:=e5
      exact Nat.le_trans e2 e6
     ·exact e5.2.2.2
   ·exact aA (F:=Fa) h2
 ·obtain⟨rfl,h5⟩:=cY h hm
  exact⟨h,h5⟩
theorem Ng{p:bX E}{l:List FuncId}(hm:(vC (E:=E) p).run Fa σ=some (l,σ1)):σ1=σ:=by
 unfold vC at hm
 split at hm
 ·rw[M.run_getS]at hm
  split at hm <;> exact(aB (F:=Fa) hm).2
 ·exact(aB (F:=Fa) hm).2
theorem vD:∀ {ps:List (bX E)} {l:List FuncId} {σ1:St E.G},(ro (E:=E) ps).run Fa σ=some (l,σ1)→σ1=σ
 | [],l,σ1,hm=>(aB (F:=Fa) hm).2
 | p::ps,l,σ1,hm=>by
  obtain⟨a,σ2,h1,h2⟩:=az hm
  obtain⟨b,σ3,h3,h4⟩:=az h2
  rw[Ng h1]at h3
  rw[(aB (F:=Fa) h4).2]
  exact vD h3
theorem fB:∀ {ps:List (bX E)} {l:List FuncId} {σ1:St E.G},(rq (E:=E) ps).run Fa σ=some (l,σ1)→σ1=σ
 | [],l,σ1,hm=>(aB (F:=Fa) hm).2
 | .clo f cs::ps,l,σ1,hm=>by
  obtain⟨a,σ2,h1,h2⟩:=az hm
  obtain⟨b,σ3,h3,h4⟩:=az h2
  rw[vD h1]at h3
  rw[(aB (F:=Fa) h4).2]
  exact fB h3
 | .no::ps,l,σ1,hm=>fB (ps:=ps) hm
 | .val _::ps,l,σ1,hm=>fB (ps:=ps) hm
 | .adr _ _::ps,l,σ1,hm=>fB (ps:=ps) hm
 | .ptr _ _ _ _::ps,l,σ1,hm=>fB (ps:=ps) hm
 | .ali _ _ _::ps,l,σ1,hm=>fB (ps:=ps) hm
 | .view _ _ _ _ _::ps,l,σ1,hm=>fB (ps:=ps) hm
 | .nil::ps,l,σ1,hm=>fB (ps:=ps) hm
 | .tup _::ps,l,σ1,hm=>fB (ps:=ps) hm
 | .wrd _ _ _ _::ps,l,σ1,hm=>fB (ps:=ps) hm
 | .und::ps,l,σ1,hm=>fB (ps:=ps) hm
 | .ind::ps,l,σ1,hm=>fB (ps:=ps) hm
 | .one::ps,l,σ1,hm=>fB (ps:=ps) hm
 | .len _::ps,l,σ1,hm=>fB (ps:=ps) hm
theorem Ox{S:Nat→Prop}{w:World}{sl:Nat→Slot E.G}{V:Nat→Value}{k:FuncId}{v:Value}(hp:b9 S w sl V (.clo k []) v):v = .func (.func k) #[] #[]:=by
 obtain⟨vs,h1,h2⟩:=hp
 have h2':vs.toList=[]:=h2
 rw[h1,show vs = #[]from Array.ext' h2']
theorem MZ(hnp:fn.np=C.np)(h:Ok C σ a w S F V){t:TypeId}{dst:Option Tmp}{p r:bX E}{v:Value}(hp:b9 S w σ.slot V p v)(hm:(rh (E:=E) fn dst p).run Fa σ=some (r,σ1)):Res C a σ1 r (Instr.box t v) w:=by
 unfold rh at hm
 split at hm
 ·rename_i d k
  have hv:=Ox hp
  subst hv
  obtain⟨F',V',k1,k2,_⟩:=EW hnp h (L:=[]) (Fd:=[]) Loose.nil (dv:=⟨.fn k,()⟩) (v:=.func (.func k) #[] #[]) ⟨rfl,rfl⟩ (fun i hi=>by cases hi) t hm
  exact⟨_,_,by simp[Instr.box,newVar,newRow],S,F',V',k1,k2⟩
 ·exact aA (F:=Fa) hm
theorem TJ(h:Ok C σ a w S F V){t:TypeId}(hf:nG C.P t=true){p q:bX E}{va:Value}(hp:b9 S w σ.slot V p va)(hm:(sx (E:=E) p).run Fa σ=some (q,σ1)):Res C a σ1 q (Instr.loadAt t va) w:=by
 unfold sx at hm
 split at hm
 ·rename_i s g
  rw[M.run_getS]at hm
  split at hm
  ·rename_i k x0 hc
   obtain⟨hb,hm2⟩:=aC hm
   simp only[aD]at hb
   obtain⟨rfl,rfl⟩:=aB (F:=Fa) hm2
   obtain⟨_,b,hV,hva⟩:=hp.2.1 rfl (aG hb.2)
   have hs:=h.slots s
   unfold cO at hs
   rw[hc]at hs
   simp only at hs
   rw[bw hb.1]at hs
   obtain⟨b',c,E0,F',e1,e2,e3,e4⟩:=hs
   rw[hV]at e1
   cases e1
   have hc1:c = #[.func (.func k) #[] #[]]:=by apply Array.ext';rw[e4.1]
   subst hc1
   have hag:(isAgg t).run C.P w = .ok false w:=by
    unfold nG at hf
    split at hf
    ·rename_i hu;simp[isAgg,run_underlying hu]
    ·cases hf
   have hcell:w.cell? (⟨b,0,none⟩:Addr)=some (.func (.func k) #[] #[]):=by simp[World.cell?,e2]
   subst hva
   exact⟨.func (.func k) #[] #[],w,by simp[Instr.loadAt,Instr.sureAddr,loadVar,hag,hcell],S,F,V,h,#[],rfl,rfl⟩
  ·exact aA (F:=Fa) hm
 ·exact aA (F:=Fa) hm
theorem Uk(hB:Base E Fa C fn)(h:Ok C σ a w S F V){o:Oper}(hm:(opM (E:=E) fn o).run Fa σ=some ((),σ1)){next:Act→World→Prop}{Q:Exit→Act→World→Prop}(hn:∀ a' w',df C σ1 a' w'→next a' w'):o.wp C.P a w next Q:=by
 cases ho:o.op with
 | move x =>
  simp only[opM,ho]at hm
  obtain⟨r,σ2,h1,h2⟩:=az hm
  obtain⟨h',h5⟩:=T3 h h1
  exact xM hB.nt (by simp only[execOp,ho]) h' h5 h2 hn
 | assign x =>
  simp only[opM,ho]at hm
  obtain⟨r,σ2,h1,h2⟩:=az hm
  obtain⟨p,σ3,h3,h4⟩:=az h1
  obtain⟨rfl,h5⟩:=cY h h3
  obtain⟨rfl,rfl⟩:=aB (F:=Fa) h4
  exact xM hB.nt (by simp only[execOp,ho]) h h5 h2 hn
 | pick c x y =>
  simp only[opM,ho]at hm
  obtain⟨r,σ2,h1,h2⟩:=az hm
  obtain⟨p,σ3,h3,h4⟩:=az h1
  obtain⟨rfl,h5⟩:=cY h h3
  cases hb:asB p with
  | none=>rw[hb]at h4;exact aA (F:=Fa) h4
  | some t =>
   rw[hb]at h4
   have h6:=M2 h4
   obtain⟨q,σ4,h7,h8⟩:=az h6
   obtain⟨rfl,h9⟩:=cY h h7
   obtain⟨rfl,rfl⟩:=YC h8
   have hv:=FS h5 hb
   refine eM (s:=do pure (if ← asBool (a.eval c)then a.eval x else a.eval y)) hB.nt (by simp only[execOp,ho,bind_assoc,pure_bind]) (r:=r) ⟨(if t then a.eval x else a.eval y),w,by rw[hv];simp[asBool],S,F,V,h,?_⟩ h2 hn
   cases t <;> exact h9
 | alloc t =>
  simp only[opM,ho]at hm
  obtain⟨r,σ2,h1,h2⟩:=az hm
  exact eM hB.nt (by simp only[execOp,ho]) (Mx hB.np hB.ty h h1) h2 hn
 | box t x =>
  simp only[opM,ho]at hm
  obtain⟨r,σ2,h1,h2⟩:=az hm
  cases hf:E.fnt t with
  | true =>
   rw[hf]at h1
   obtain⟨p,σ3,h3,h4⟩:=az (show M.run Fa ((opd x).bind fun p=>rh fn o.dst p) σ=some (r,σ2)from h1)
   obtain⟨rfl,h5⟩:=cY h h3
   exact eM hB.nt (by simp only[execOp,ho]) (MZ (t:=t) hB.np h h5 h4) h2 hn
  | false =>
  rw[hf]at h1
  obtain⟨p,σ3,h3,h4⟩:=az (show M.run Fa ((opd x).bind fun p=>(sn p).bind fun kn=>(ri fn (E.ty t) o.dst p).bind fun r=>sw kn r) σ=some (r,σ2)from h1)
  obtain⟨rfl,h5⟩:=cY h h3
  obtain⟨kn,σ4,h6,h7⟩:=az h4
  obtain⟨rfl,h8⟩:=Qq h h5 h6
  obtain⟨r0,σ5,h9,h10⟩:=az h7
  obtain⟨v',w',q1,q2,S',F',V',q3,q4,q5⟩:=M1 hB.np h h5 h9
  obtain⟨q6,q7⟩:=TH q3 h8 q2 q4 q5 h10
  exact eM hB.nt (by simp only[execOp,ho]) ⟨v',w',q1,S',F',V',q6,q7⟩ h2 hn
 | build t parts =>
  simp only[opM,ho]at hm
  obtain⟨r,σ2,h1,h2⟩:=az hm
  obtain⟨r0,σ5,h9,h10⟩:=az h1
  obtain⟨v',w',q1,q2,S',F',V',q3,q4⟩:=M5 hB.np hB.ty h h9
  obtain⟨q6,q7⟩:=TG q3 q2 q4 h10
  exact eM hB.nt (by simp only[execOp,ho]) ⟨v',w',q1,S',F',V',q6,q7⟩ h2 hn
 | buildSlice t len parts =>
  simp only[opM,ho]at hm
  obtain⟨r,σ2,h1,h2⟩:=az hm
  exact eM hB.nt (by simp only[execOp,ho]) (M4 hB.np hB.ty h h1) h2 hn
 | load t x =>
  simp only[opM,ho]at hm
  obtain⟨r,σ2,h1,h2⟩:=az hm
  cases hf:E.fnt t with
  | true =>
   rw[hf]at h1
   obtain⟨p,σ3,h3,h4⟩:=az (show M.run Fa ((opd x).bind fun p=>sx p) σ=some (r,σ2)from h1)
   obtain⟨rfl,h5⟩:=cY h h3
   exact eM hB.nt (by simp only[execOp,ho]) (TJ h (hB.fnt t hf) h5 h4) h2 hn
  | false =>
  rw[hf]at h1
  obtain⟨p,σ3,h3,h4⟩:=az (show M.run Fa ((opd x).bind fun p=>sy (E.ty t) p) σ=some (r,σ2)from h1)
  obtain⟨rfl,h5⟩:=cY h h3
  exact eM hB.nt (by simp only[execOp,ho]) (TK hB.ty h h5 h4) h2 hn
 | store t x y =>
  simp only[opM,ho]at hm
  obtain⟨p,σ2,h1,h2⟩:=az hm
  obtain⟨rfl,h5⟩:=cY h h1
  obtain⟨_,σ3,h3,h4⟩:=az h2
  obtain⟨w',h6,S',F',V',h7⟩:∃ w',(Instr.storeAt t (a.eval x) (a.eval y)).run C.P w = .ok () w'∧∃ S' F' V',Ok C σ3 a w' S' F' V':=by
   cases hl:later fn x with
   | true=>rw[hl]at h3;exact Qn hB.ty h h5 h3
   | false=>rw[hl]at h3;exact YM hB.ty h h5 h3
  unfold Oper.wp
  have hs:execOp a.eval o=(do Instr.storeAt t (a.eval x) (a.eval y);pure Next.skip):=by simp only[execOp,ho]
  rw[hs,Sem.run_bind,h6]
  exact hn _ _ (uo (r:=.no) (v:=undef) hB.nt h7 trivial h4)
 | nilCheck x =>
  simp only[opM,ho]at hm
  obtain⟨r,σ2,h1,h2⟩:=az hm
  obtain⟨p,σ3,h3,h4⟩:=az h1
  obtain⟨rfl,h5⟩:=cY h h3
  obtain⟨rfl,rfl,h6⟩:=T8 h5 h4
  refine xM (v:=a.eval x) hB.nt ?_ h h5 h2 hn
  rcases h6 with ⟨b,off,h6⟩ | ⟨f,vs,h6⟩
  ·simp only[execOp,ho,h6]
  ·simp only[execOp,ho,h6]
 | binOp op t x y p =>
  simp only[opM,ho]at hm
  obtain⟨r,σ2,h1,h2⟩:=az hm
  obtain⟨p,σ3,h3,h4⟩:=az h1
  obtain⟨rfl,h5⟩:=cY h h3
  obtain⟨q,σ4,h6,h7⟩:=az h4
  obtain⟨rfl,h8⟩:=cY h h6
  obtain⟨e,v,h9,h10⟩:=MW (P:=C.P) (w:=w) (S:=S) (V:=V) (sl:=σ4.slot) (t:=t) (xo:=x) (yo:=y) hB.ty (fun hc=>by
   rw[aD,aY]at hc
   exact⟨hB.ifc _ hc.1,hc.2⟩) h5 h8 h7
  subst e
  exact eM (s:=do eqGuard op t x y (a.eval x) (a.eval y);binOp op t (a.eval x) (a.eval y)) hB.nt (by simp only[execOp,ho]) ⟨v,w,h9,S,F,V,h,h10⟩ h2 hn
 | unOp op t x =>
  simp only[opM,ho]at hm
  obtain⟨r,σ2,h1,h2⟩:=az hm
  obtain⟨p,σ3,h3,h4⟩:=az h1
  obtain⟨rfl,h5⟩:=cY h h3
  exact eM hB.nt (by simp only[execOp,ho]) (Y4 h h5 h4) h2 hn
 | convert s t x =>
  simp only[opM,ho]at hm
  obtain⟨r,σ2,h1,h2⟩:=az hm
  obtain⟨p,σ3,h3,h4⟩:=az h1
  obtain⟨rfl,h5⟩:=cY h h3
  exact eM hB.nt (by simp only[execOp,ho]) (NN hB.np hB.ty h h5 h4) h2 hn
 | makeFunc f first captured =>
  cases f with
  | func f =>
   simp only[opM,ho]at hm
   obtain⟨hfi,hm2⟩:=aC (F:=Fa) hm
   obtain⟨r,σ2,h1,h2⟩:=az hm2
   obtain⟨cs,σ3,h3,h4⟩:=az h1
   obtain⟨rfl,h5⟩:=p9 h captured.toList cs σ3 h3
   obtain⟨rfl,rfl⟩:=aB (F:=Fa) h4
   have hf0:first = #[]:=by simpa using hfi
   have hpin:b9 S w σ2.slot V (.clo f cs) (.func (.func f) #[] (captured.map a.eval)):=⟨captured.map a.eval,rfl,by rw[Array.toList_map];exact h5⟩
   exact eM (s:=Instr.makeFunc (.func f) (first.map a.eval) (captured.map a.eval)) hB.nt (by simp only[execOp,ho]) ⟨.func (.func f) #[] (captured.map a.eval),w,by rw[hf0];simp[Instr.makeFunc],S,F,V,h,hpin⟩ h2 hn
  | _=>simp only[opM,ho]at hm;exact aA (F:=Fa) hm
 | makeSlice t l c =>
  simp only[opM,ho]at hm
  obtain⟨r,σ2,h1,h2⟩:=az hm
  obtain⟨p,σ3,h3,h4⟩:=az h1
  obtain⟨rfl,h5⟩:=cY h h3
  obtain⟨q,σ4,h6,h7⟩:=az h4
  obtain⟨rfl,h8⟩:=cY h h6
  exact eM hB.nt (by simp only[execOp,ho]) (TX hB.np hB.ty h h5 h8 h7) h2 hn
 | slice t x lo hi mx =>
  cases mx with
  | none =>
   simp only[opM,ho]at hm
   obtain⟨r,σ2,h1,h2⟩:=az hm
   obtain⟨p,σ3,h3,h4⟩:=az h1
   obtain⟨rfl,h5⟩:=cY h h3
   obtain⟨l,σ4,h6,h7⟩:=az h4
   obtain⟨rfl,h8⟩:=I1 h h6
   obtain⟨u,σ5,h9,h10⟩:=az h7
   obtain⟨rfl,h11⟩:=I1 h h9
   exact eM hB.nt (by simp only[execOp,ho,Option.map_none]) (Yz hB.np hB.ty h h5 h8 h11 h10) h2 hn
  | some _=>simp only[opM,ho]at hm;exact aA (F:=Fa) hm
 | fieldAddr t x i =>
  simp only[opM,ho]at hm
  obtain⟨r,σ2,h1,h2⟩:=az hm
  obtain⟨p,σ3,h3,h4⟩:=az h1
  obtain⟨rfl,h5⟩:=cY h h3
  exact eM hB.nt (by simp only[execOp,ho]) (Oh hB.ty h h5 h4) h2 hn
 | field t x i =>
  simp only[opM,ho]at hm
  obtain⟨r,σ2,h1,h2⟩:=az hm
  obtain⟨p,σ3,h3,h4⟩:=az h1
  obtain⟨rfl,h5⟩:=cY h h3
  exact eM hB.nt (by simp only[execOp,ho]) (Oi hB.ty h h5 h4) h2 hn
 | indexAddr t x i =>
  simp only[opM,ho]at hm
  obtain⟨r,σ2,h1,h2⟩:=az hm
  obtain⟨p,σ3,h3,h4⟩:=az h1
  obtain⟨rfl,h5⟩:=cY h h3
  obtain⟨q,σ4,h6,h7⟩:=az h4
  obtain⟨rfl,h8⟩:=cY h h6
  exact eM hB.nt (by simp only[execOp,ho]) (Qa hB.ty h h5 h8 h7) h2 hn
 | index t x i =>
  simp only[opM,ho]at hm
  obtain⟨r,σ2,h1,h2⟩:=az hm
  obtain⟨p,σ3,h3,h4⟩:=az h1
  obtain⟨rfl,h5⟩:=cY h h3
  obtain⟨q,σ4,h6,h7⟩:=az h4
  obtain⟨rfl,h8⟩:=cY h h6
  exact eM hB.nt (by simp only[execOp,ho]) (Qc hB.ty h h5 h8 h7) h2 hn
 | extract x i =>
  simp only[opM,ho]at hm
  obtain⟨r,σ2,h1,h2⟩:=az hm
  obtain⟨p,σ3,h3,h4⟩:=az h1
  obtain⟨rfl,h5⟩:=cY h h3
  exact eM hB.nt (by simp only[execOp,ho]) (Og h h5 h4) h2 hn
 | call c =>
  obtain⟨callee,args,argTypes⟩:=c
  cases callee with
  | builtin b =>
   simp only[opM,ho]at hm
   obtain⟨r,σ2,h1,h2⟩:=az hm
   have res:∀ (op:Array TypeId→TypeId→Array Value→Sem Value),(execOp a.eval o=(do pure (Next.value (← op argTypes o.type (args.map a.eval)))))→Res C a σ2 r (op argTypes o.type (args.map a.eval)) w→o.wp C.P a w next Q:=fun op he hr=>eM hB.nt he hr h2 hn
   have ex:∀ s:Sem Value,(∀ consts,builtin b argTypes o.type consts (args.map a.eval)=(do pure (Next.value (← s))))→execOp a.eval o=(do pure (Next.value (← s))):=by
    intro s hs
    simp only[execOp,ho,resolve,pure_bind,invoke]
    exact hs _
   have hargs:args.map a.eval=(args.toList.map a.eval).toArray:=by apply Array.ext';simp
   unfold Gk at h1
   split at h1
   ·rename_i xs x hx
    obtain⟨p,σ3,h3,h4⟩:=az h1
    obtain⟨rfl,h5⟩:=cY h h3
    cases ha:argTypes[0]? with
    | none =>
     rw[ha]at h4
     obtain⟨_,_,h6,_⟩:=az h4
     obtain⟨hq,_⟩:=aC (F:=Fa) h6;cases hq
    | some t =>
     rw[ha]at h4
     refine res Builtin.len_ (ex _ fun _=>rfl) ?_
     rw[hargs,hx]
     obtain⟨r',σ4,h6,h7⟩:=az h4
     have hq:(bif hid fn o.dst then opq (E:=E) r' else r')=r':=by cases hid fn o.dst;rfl;exact Uo r'
     rw[hq]at h7
     obtain⟨rfl,rfl⟩:=aB (F:=Fa) h7
     exact TD hB.ty h h5 ha h6
   ·rename_i xs x y hx
    obtain⟨p,σ3,h3,h4⟩:=az h1
    obtain⟨rfl,h5⟩:=cY h h3
    cases ha:argTypes[0]? with
    | none =>
     rw[ha]at h4
     obtain⟨_,h6⟩:=aC (F:=Fa) h4
     exact aA (F:=Fa) h6
    | some t =>
     cases hb:argTypes[1]? with
     | none=>rw[hb]at h4;obtain⟨hq,_⟩:=aC (F:=Fa) h4;cases hq
     | some t2 =>
      rw[ha,hb]at h4
      refine res Builtin.append_ (ex _ fun _=>rfl) ?_
      rw[hargs,hx]
      exact MJ hB.np hB.ty h ha hb h5 h4
   ·rename_i xs x y hx
    cases ha:argTypes[0]? with
    | none =>
     rw[ha]at h1
     obtain⟨_,h6⟩:=aC (F:=Fa) h1
     exact aA (F:=Fa) h6
    | some t =>
     cases hb:argTypes[1]? with
     | none=>rw[hb]at h1;obtain⟨hq,_⟩:=aC (F:=Fa) h1;cases hq
     | some t2 =>
      rw[ha,hb]at h1
      refine res Builtin.copy_ (ex _ fun _=>rfl) ?_
      rw[hargs,hx]
      exact NO hB.ty h ha h1
   ·rename_i xs x hx
    obtain⟨p,σ3,h3,h4⟩:=az h1
    obtain⟨rfl,h5⟩:=cY h h3
    cases ha:argTypes[0]? with
    | none =>
     rw[ha]at h4
     exfalso
     revert h4
     show M.run Fa (o3 (E:=E) none p) σ3≠some (r,σ2)
     unfold o3
     split
     ·rw[M.run_getS]
      split
      ·intro h6;obtain⟨hq,_⟩:=aC (F:=Fa) h6;cases hq
      ·exact fun h6=>aA (F:=Fa) h6
     ·exact fun h6=>aA (F:=Fa) h6
    | some t =>
     rw[ha]at h4
     refine res Builtin.clear_ (ex _ fun _=>rfl) ?_
     rw[hargs,hx]
     exact Nm hB.ty h ha h5 h4
   ·rename_i xs x xs' hx
    obtain⟨p,σ3,h3,h4⟩:=az h1
    obtain⟨rfl,h5⟩:=cY h h3
    obtain⟨ps,σ4,h6,h7⟩:=az h4
    obtain⟨rfl,h8⟩:=p9 h xs' ps σ4 h6
    cases hi:asI p with
    | none=>rw[hi]at h7;exact aA (F:=Fa) h7
    | some kn =>
     rw[hi]at h7
     obtain⟨m,σ5,h9,h10⟩:=az h7
     obtain⟨h11,rfl⟩:=M.run_lift h9
     obtain⟨rfl,rfl⟩:=aB (F:=Fa) h10
     obtain⟨hv,hw⟩:=iL h5 (show asI p=some (kn.1,kn.2)from hi)
     obtain⟨k1,k2⟩:=Hj (P:=C.P) (w:=w) (S:=S) (V:=V) (g:=Builtin.min2) (fun x y w=>by simp[Builtin.min2,mnI]) (fun x y hx hy=>by unfold mnI;split <;> assumption) ps _ kn.2 m hw h8 h11
     refine res Builtin.min_ (ex _ fun _=>rfl) (Res.pure h (eb k2) ?_)
     rw[hargs,hx]
     simp only[Builtin.min_,bj,hv]
     exact k1
   ·rename_i xs x xs' hx
    obtain⟨p,σ3,h3,h4⟩:=az h1
    obtain⟨rfl,h5⟩:=cY h h3
    obtain⟨ps,σ4,h6,h7⟩:=az h4
    obtain⟨rfl,h8⟩:=p9 h xs' ps σ4 h6
    cases hi:asI p with
    | none=>rw[hi]at h7;exact aA (F:=Fa) h7
    | some kn =>
     rw[hi]at h7
     obtain⟨m,σ5,h9,h10⟩:=az h7
     obtain⟨h11,rfl⟩:=M.run_lift h9
     obtain⟨rfl,rfl⟩:=aB (F:=Fa) h10
     obtain⟨hv,hw⟩:=iL h5 (show asI p=some (kn.1,kn.2)from hi)
     obtain⟨k1,k2⟩:=Hj (P:=C.P) (w:=w) (S:=S) (V:=V) (g:=Builtin.max2) (fun x y w=>by simp[Builtin.max2,mxI]) (fun x y hx hy=>by unfold mxI;split <;> assumption) ps _ kn.2 m hw h8 h11
     refine res Builtin.max_ (ex _ fun _=>rfl) (Res.pure h (eb k2) ?_)
     rw[hargs,hx]
     simp only[Builtin.max_,bj,hv]
     exact k1
   ·exact aA (F:=Fa) h1
  | value f =>
   simp only[opM,ho]at hm
   obtain⟨p,σ2,h1,h2⟩:=az hm
   obtain⟨rfl,h3⟩:=cY h h1
   cases p with
   | clo g cs =>
    obtain⟨ps,σ3,h4,h5⟩:=az h2
    obtain⟨rfl,h6⟩:=p9 h args.toList ps σ3 h4
    obtain⟨ca,σ4,h7,h9⟩:=az h5
    rw[vD h7]at h9
    obtain⟨cb,σ5,h8,h10⟩:=az h9
    rw[fB h8]at h10
    obtain⟨vsc,hv,hd⟩:=Ne hB.np hB.nt hB.fns hB.gl hB.gs h h10
    have hex:execOp a.eval o=callFunc g (args.map a.eval++vsc):=by
     simp only[execOp,ho,resolve,hv,Deferred.ofValue,pure_bind,invoke,Array.empty_append]
    have hargs:args.map a.eval=(args.toList.map a.eval).toArray:=by apply Array.ext';simp
    rw[hargs]at hex
    unfold Oper.wp
    rcases hd with ⟨k1,k2⟩ | ⟨v,w',k1,k2⟩
    ·rw[hex,k1,Oper.upon_enter]
     refine k2.mono fun e w' ⟨v,k3,S',F',V',k4⟩=>?_
     subst k3
     exact hn _ _ ⟨S',F',V',k4⟩
    ·obtain⟨S',F',V',k4⟩:=k2
     rw[hex,k1,Oper.upon_value]
     exact hn _ _ ⟨S',F',V',k4⟩
   | _=>exact aA (F:=Fa) h2
  | invoke _ _=>simp only[opM,ho]at hm;exact aA (F:=Fa) hm
 | _=>simp only[opM,ho]at hm;exact aA (F:=Fa) hm
end
end
section
section
variable {E:Env} {Fa:cr E.Z} {C:Ctx} {σ σ1 σ2:St E.G} {a:Act} {w:World} {S:Nat→Prop} {F:Nat→List Nat} {V:Nat→Value} {L:List Nat} {fn:Fn}
theorem ML{p:bX E}{sl:Nat→Slot E.G}{v:Value}(hp:b9 S w sl V p v){b:Bool}(h:asG (E:=E) p=some b):v = .bool b:=by
 unfold asG at h
 split at h
 ·cases h;exact qb hp
 ·cases h
theorem lO{α ρ:Type}{m:ME E α}{σ:St E.G}{K:α→St E.G→Option ρ}{y:ρ}(h:m.go Fa σ K=some y):∃ x σ1,m.run Fa σ=some (x,σ1)∧K x σ1=some y:=by
 rw[M.go_eq]at h
 cases hr:m.run Fa σ with
 | none=>rw[hr]at h;exact b7 h
 | some z=>rw[hr]at h;exact⟨z.1,z.2,rfl,h⟩
theorem ZE{ops:Array Oper}{a:Act}{j t:Nat}{b:Bool}(ht:(ops[j]?).bind (·.dst)=some t)(hv:a.tmps.getD t undef = .bool b):yielded ops a.tmps j=some b:=by
 unfold yielded
 rw[ht]
 have:a.tmps[t]?.getD undef = .bool b:=by simpa using hv
 cases h:a.tmps[t]? with
 | none=>rw[h]at this;cases this
 | some v=>rw[h]at this;simp at this;subst this;simp[h]
theorem T9(hB:Base E Fa C fn)(h:Ok C σ a w S F V){dst:Option Tmp}(hm:(dC (E:=E) fn dst .und).run Fa σ=some ((),σ1)):df C σ1 (a.put dst undef) w:=uo (r:=.und) (v:=undef) hB.nt h rfl hm
theorem Qj{p:bX E}(h:fC (E:=E) p=true):p = .und:=by cases p <;> first | rfl | cases h
theorem ZF{ops:Array Oper}{a:Act}{j t:Nat}(ht:(ops[j]?).bind (·.dst)=some t)(hv:a.tmps.getD t undef=undef):yielded ops a.tmps j=none:=by
 unfold yielded
 rw[ht]
 have:a.tmps[t]?.getD undef=undef:=by simpa using hv
 cases h:a.tmps[t]? with
 | none=>simp[h]
 | some v=>rw[h]at this;simp at this;subst this;simp[h,undef]
theorem EP(hB:Base E Fa C fn){ops:Array Oper}{i:Nat}{o:Oper}(ho:ops[i]? = some o){ρ:Type}{K:St E.G→Option ρ}{y:ρ}{next:Act→World→Prop}{Q:Exit→Act→World→Prop}
  (hn:∀ σ a w,df C σ a w→K σ=some y→next a w) (hM:df C σ a w)
  (hm:jj (E:=E) fn Fa ops o σ K=some y) :
  if Region.wanted o (yielded ops a.tmps)=true then o.wp C.P a w next Q else next (a.put o.dst undef) w:=by
 unfold jj at hm
 obtain⟨S,F,V,h⟩:=hM
 have run:∀ {σ':St E.G},Ok C σ' a w S F V→(opM (E:=E) fn o).go Fa σ' (fun _ σ=>K σ)=some y→o.wp C.P a w next Q:=by
  intro σ' h' hgo
  obtain⟨_,σ1,h1,h2⟩:=lO hgo
  exact Uk hB h' h1 fun a' w' hM=>hn _ _ _ hM h2
 have no:∀ {σ':St E.G},Ok C σ' a w S F V→(dC (E:=E) fn o.dst .und).go Fa σ' (fun _ σ=>K σ)=some y→next (a.put o.dst undef) w:=by
  intro σ' h' hgo
  obtain⟨_,σ1,h1,h2⟩:=lO hgo
  exact hn _ _ _ (T9 hB h' h1) h2
 cases hg:o.guard with
 | none =>
  rw[hg]at hm
  have:Region.wanted o (yielded ops a.tmps)=true:=by unfold Region.wanted;rw[hg]
  rw[bw this]
  exact run h hm
 | some jw =>
  obtain⟨j,want⟩:=jw
  rw[hg]at hm
  simp only at hm
  cases ht:(ops[j]?).bind (·.dst) with
  | none=>rw[ht]at hm;exact b7 hm
  | some t =>
   rw[ht]at hm
   simp only at hm
   cases hb:asG (E:=E) (σ.pin t) with
   | none =>
    rw[hb]at hm
    simp only at hm
    cases hu:fC (E:=E) (σ.pin t) with
    | false=>rw[hu]at hm;exact b7 hm
    | true =>
     rw[hu]at hm
     have hv:a.tmps.getD t undef=undef:=by have:=h.pins t;rw[Qj hu]at this;exact this
     have hw:Region.wanted o (yielded ops a.tmps)=false:=by
      unfold Region.wanted
      rw[hg]
      simp only[ZF ht hv]
      cases want <;> rfl
     rw[hw]
     exact no h hm
   | some b =>
    rw[hb]at hm
    simp only at hm
    have hv:=ML (h.pins t) hb
    have hy:=ZE ht hv
    have h':Ok C (σ.setP t (vB b)) a w S F V:=h.repin (by rw[hv];exact ek)
    have hw:Region.wanted o (yielded ops a.tmps)=(b==want):=by
     unfold Region.wanted
     rw[hg]
     simp only[hy]
     cases b <;> cases want <;> rfl
    rw[hw]
    cases b <;> cases want
    ·exact run h' hm
    ·exact no h' hm
    ·exact no h' hm
    ·exact run h' hm
theorem oZ{G:Gam}{S S2:Nat→Prop}{w:World}:∀ {b:BT} {x:B G.T b} {cs:List Value} {F:List Nat},RepB (G:=G) S w b x cs F→∃ F',F'.Sublist F∧RepB S2 w (ig G b x).b (ig G b x).x cs F'
 | .leaf o t,x,cs,F,h=>by
  rw[show ig G (.leaf o t) x=bif o||t.flat G.flat then⟨.leaf o t,x⟩ else⟨.hole (t.sz G.sz),()⟩from rfl]
  cases hc:(o||t.flat G.flat) with
  | true=>exact⟨F,List.Sublist.refl _,RepB.own (b:=.leaf o t) hc h⟩
  | false=>exact⟨[],List.nil_sublist _,RepE.len h,rfl⟩
 | .un,x,cs,F,h=>⟨F,List.Sublist.refl _,h⟩
 | .pr a b,x,cs,F,⟨c1,c2,F1,F2,h1,h2,h3,h4⟩=>by
  obtain⟨G1,k1,k2⟩:=oZ (S2:=S2) h3
  obtain⟨G2,k3,k4⟩:=oZ (S2:=S2) h4
  exact⟨G1++G2,by rw[h2];exact k1.append k3,c1,c2,G1,G2,h1,rfl,k2,k4⟩
 | .hole n,x,cs,F,h=>⟨F,List.Sublist.refl _,h⟩
 | .sp e,x,cs,F,h=>⟨[],List.nil_sublist _,RepB.len h,rfl⟩
 | .fn k,x,cs,F,h=>⟨F,List.Sublist.refl _,h⟩
theorem Gt{G:Gam}{b:BT}{x:B G.T b}{v:Value}(h:Shaped b v):Shaped (ig G b x).b v:=by
 cases b with
 | leaf o t =>
  rw[show ig G (.leaf o t) x=bif o||t.flat G.flat then⟨.leaf o t,x⟩ else⟨.hole (t.sz G.sz),()⟩from rfl]
  cases hc:(o||t.flat G.flat) with
  | true=>exact h
  | false=>trivial
 | pr a b=>exact h
 | un=>exact h
 | hole n=>trivial
 | sp e=>trivial
 | fn k=>exact h
theorem Nl{G:Gam}{S S2:Nat→Prop}{w:World}{σ:St G}{V:Nat→Value}{p:Pin G}{v:Value}(h:b9 S w σ.slot V p v):b9 S2 w (gK σ).slot V (vE p) v:=by
 cases p with
 | no=>trivial
 | val d =>
  rw[show vE (.val d)=bif d.b.own G then .val d else .no from rfl]
  cases hc:d.b.own G with
  | true=>exact⟨RepB.own hc h.1,h.2⟩
  | false=>trivial
 | adr _ _=>trivial
 | ptr s p off g=>exact⟨⟨Nat.le_succ_of_le h.1.1,h.1.2⟩,h.2.1,fun _ hg=>absurd (show g=(σ.slot s).gen+1 from hg) (by have:=h.1.1;omega)⟩
 | ali s p g=>exact⟨Nat.le_succ_of_le h.1,h.2.1,fun hg=>absurd (show g=(σ.slot s).gen+1 from hg) (by have:=h.1;omega)⟩
 | view s p g lo hi=>exact⟨Nat.le_succ_of_le h.1,fun hg=>absurd (show g=(σ.slot s).gen+1 from hg) (by have:=h.1;omega)⟩
 | nil=>exact h
 | clo _ _=>trivial
 | tup _=>trivial
 | wrd s gs s' g'=>exact⟨Nat.le_succ_of_le h.1,⟨Nat.le_succ_of_le h.2.1.1,h.2.1.2⟩,fun hg=>absurd (show gs=(σ.slot s).gen+1 from hg) (by have:=h.1;omega)⟩
 | und=>exact h
 | ind=>exact h
 | one=>exact h
 | len n=>exact h
theorem Nk(hgs:∀ b,C.S0 b→b∉C.F0∧b<C.w0.heap.size)(hM:df C σ a w):df C (gK σ) a w:=by
 obtain⟨S,F,V,h⟩:=hM
 have key:∀ s,∃ F':List Nat,F'.Sublist (F s)∧cO C.S0 w (gK σ).slot V ((gK σ).slot s) (V s) F':=by
  intro s
  have hs:=h.slots s
  unfold cO at hs
  show ∃ F':List Nat,F'.Sublist (F s)∧cO C.S0 w (gK σ).slot V { σ.slot s with gen:=(σ.slot s).gen+1,cont:=o0 (σ.slot s).cont } (V s) F'
  unfold cO
  cases hc:(σ.slot s).cont with
  | dead=>exact⟨[],List.nil_sublist _,rfl⟩
  | word p=>exact⟨[],List.nil_sublist _,rfl⟩
  | frz d =>
   rw[hc]at hs
   obtain⟨hb,⟨h1,h2⟩,h3⟩:=hs
   obtain⟨F',k1,k2⟩:=oZ (S2:=C.S0) h1
   refine⟨F',k1,?_⟩
   simp only[o0]
   rw[bz (by rw[hb];decide)]
   exact⟨k2,Gt h2⟩
  | data d =>
   rw[hc]at hs
   simp only[o0]at hs ⊢
   split at hs
   ·rename_i hb
    obtain⟨b,c,E0,Fs,e1,e2,e3,e4⟩:=hs
    obtain⟨F',k1,k2⟩:=oZ (S2:=C.S0) e4
    refine⟨b::F',by rw[e3];exact k1.cons_cons _,?_⟩
    rw[bw hb]
    exact⟨b,c,E0,F',e1,e2,rfl,k2⟩
   ·rename_i hb
    obtain⟨F',k1,k2⟩:=oZ (S2:=C.S0) hs.1
    refine⟨F',k1,?_⟩
    rw[bz hb]
    exact⟨k2,Gt hs.2⟩
 obtain⟨F',hF'⟩:=Classical.axiomOfChoice key
 refine⟨C.S0,F',V,{ h with
  pins:=fun t=>Nl (h.pins t)
  slots:=fun s=>(hF' s).2
  born:=fun s=>Nat.le_succ_of_le (h.born s)
  nd:=fun s=>(h.nd s).sublist (hF' s).1
  apart:=fun s s' hne b hb hb'=>h.apart s s' hne b ((hF' s).1.subset hb) ((hF' s').1.subset hb')
  notS:=fun s b hb _ hS=>by
   obtain⟨g1,g2⟩:=hgs b hS
   rcases h.fromF s b ((hF' s).1.subset hb)with g | g
   ·exact g1 g
   ·omega
  bnd:=fun s b hb=>h.bnd s b ((hF' s).1.subset hb)
  bndS:=fun b hb=>h.bndS b (h.inS b hb)
  fromF:=fun s b hb=>h.fromF s b ((hF' s).1.subset hb)
  fromS:=fun b hb=>.inl hb
  inS:=fun b hb=>hb
  orig:=fun s i h1 h2 h3 cs ad h4=>h.orig s i h1 h2 (fun e=>h3 (by show o0 (σ.slot s).cont = .dead;rw[e];rfl)) cs ad h4 }⟩
theorem xB(hB:Base E Fa C fn){ops:Array Oper}{ρ:Type}{K:St E.G→Option ρ}{y:ρ}{Q:Exit→Act→World→Prop}(hQ:∀ σ a w,df C σ a w→K σ=some y→Q .normal a w) :
  ∀ (is:List Nat) (os:List Oper),(is.map fun i=>ops[i]?)=os.map some→∀ (σ:St E.G) (a:Act) (w:World),df C σ a w→fX (E:=E) fn Fa ops os σ K=some y→wpOps C.P ops Q is a w
 | [],[],_,σ,a,w,hM,hm=>hQ σ a w hM hm
 | i::is,o::os,hl,σ,a,w,hM,hm=>by
  simp only[bj,List.cons.injEq]at hl
  obtain⟨ho,hl⟩:=hl
  have hm':(bif qJ fn o then jj (E:=E) fn Fa ops o σ (fun σ=>fX (E:=E) fn Fa ops os (gK σ) K)else jj (E:=E) fn Fa ops o σ (fun σ=>fX (E:=E) fn Fa ops os σ K))=some y:=hm
  have:if Region.wanted o (yielded ops a.tmps)=true then o.wp C.P a w (wpOps C.P ops Q is) Q else wpOps C.P ops Q is (a.put o.dst undef) w:=by
   cases ht:qJ fn o with
   | true =>
    rw[ht]at hm'
    exact EP hB (Q:=Q) ho (K:=fun σ=>fX (E:=E) fn Fa ops os (gK σ) K) (next:=wpOps C.P ops Q is) (fun σ a w hM hm=>xB hB hQ is os hl (gK σ) a w (Nk hB.gs hM) hm) hM hm'
   | false =>
    rw[ht]at hm'
    exact EP hB (Q:=Q) ho (K:=fun σ=>fX (E:=E) fn Fa ops os σ K) (next:=wpOps C.P ops Q is) (fun σ a w hM hm=>xB hB hQ is os hl σ a w hM hm) hM hm'
  simp only[wpOps,ho]
  split
  ·rename_i hw;rw[bw hw]at this;exact .inl this
  ·rename_i hw;rw[bz hw]at this;exact this
 | [],_::_,hl,_,_,_,_,_=>by simp at hl
 | _::_,[],hl,_,_,_,_,_=>by simp at hl
theorem U6(ops:Array Oper):((List.range ops.size).map fun i=>ops[i]?)=ops.toList.map some:=by
 apply List.ext_getElem?
 intro k
 by_cases hk:k<ops.size
 ·simp[hk]
 ·simp[hk]
theorem Va(hB:Base E Fa C fn){ops:Array Oper}{id:Nat}{ρ:Type}{K:St E.G→Option ρ}{y:ρ}{Q:Exit→Act→World→Prop}(hQ:∀ σ a w,df C σ a w→K σ=some y→Q .normal a w)(hM:df C σ a w)
  (hm:fX (E:=E) fn Fa ops ops.toList σ K=some y):(Code.region id ops false).wp C.P Q a w :=
 wp_region (xB hB hQ _ _ (U6 ops) σ a w hM hm)
end
end
section
section
variable {G:Gam}
def eD(S:Nat→Prop)(w:World)(V:Nat→Value)(v:Nat→Value)(V0:Nat→Value):List Form→List (DV G.T)→List Nat→Prop
 | [],ds,F=>ds=[]∧F=[]
 | .val t b::fs,ds,F=>b.cp G=true∧∃ (x:B G.T b) (ds':List (DV G.T)),ds=⟨b,x⟩::ds'∧RepB S w b x (v t).cells.toList []∧Shaped b (v t)∧eD S w V v V0 fs ds' F
 | .own t id b::fs,ds,F=>cI id fs=false∧∃ (x:B G.T b) (ds':List (DV G.T)) (F1 F2:List Nat),ds=⟨b,x⟩::ds'∧F=F1++F2∧RepB S w b x (v t).cells.toList F1∧Shaped b (v t)∧V id=v t∧eD S w V v V0 fs ds' F2
 | .slot id b box orig::fs,ds,F=>cI id fs=false∧∃ (x:B G.T b) (ds':List (DV G.T)) (F1 F2:List Nat),ds=⟨b,x⟩::ds'∧F=F1++F2∧dw S w box ⟨b,x⟩ (V id) F1 ∧
   (∀ i,orig=some i→box=true→∀ cs ad,Root (G:=G) w ⟨0,0,box,orig,.data ⟨b,x⟩⟩ (V id) cs ad→cs=(V0 (16*i)).cells.toList)∧eD S w V v V0 fs ds' F2
 | .ptr t id::fs,ds,F=>dz id fs=true∧v t=V id∧eD S w V v V0 fs ds F
 | .ali t t1::fs,ds,F=>v t=v t1∧eD S w V v V0 fs ds F
 | .clo t f ids::fs,ds,F=>(∀ id∈ids,dz id fs=true)∧(∃ vs:Array Value,v t = .func (.func f) #[] vs∧vs.toList=ids.map V)∧eD S w V v V0 fs ds F
 | .wrd id id'::fs,ds,F=>(dz id fs=true∧dz id' fs=true)∧lE w (V id) (V id')∧eD S w V v V0 fs ds F
 | .frz _ _ _::_,_,_=>False
def gD(sl:Nat→Slot G):(fs:List Form)→Bs G.T (cE fs)→Prop
 | [],_=>True
 | .val _ b::fs,x=>gD sl fs x.2
 | .own t id b::fs,x=>sl id=⟨0,0,false,none,.data ⟨b,x.1⟩⟩∧gD sl fs x.2
 | .slot id b box orig::fs,x=>sl id=⟨0,0,box,orig,.data ⟨b,x.1⟩⟩∧gD sl fs x.2
 | .ptr _ _::fs,x=>gD sl fs x
 | .ali _ _::fs,x=>gD sl fs x
 | .clo _ _ _::fs,x=>gD sl fs x
 | .wrd _ _::fs,x=>gD sl fs x
 | .frz _ _ _::_,_=>False
theorem j7:∀ (fs:List Form) (x:Bs G.T (cE fs)) (id:Nat),cI id fs=false→(cV fs x).slot id=⟨0,0,false,none,.dead⟩
 | [],x,id,h=>rfl
 | .val _ b::fs,x,id,h=>j7 fs x.2 id h
 | .own t i b::fs,x,id,h=>by
  simp only[cI,Bool.or_eq_false_iff]at h
  have hne:id≠i:=fun e=>by rw[e]at h;simp at h
  show((cV fs x.2).setS i _).slot id=_
  rw[St.setS_slot,cj _ _ hne]
  exact j7 fs x.2 id h.2
 | .slot i b box orig::fs,x,id,h=>by
  simp only[cI,Bool.or_eq_false_iff]at h
  have hne:id≠i:=fun e=>by rw[e]at h;simp at h
  show((cV fs x.2).setS i _).slot id=_
  rw[St.setS_slot,cj _ _ hne]
  exact j7 fs x.2 id h.2
 | .ptr _ _::fs,x,id,h=>j7 fs x id h
 | .ali _ _::fs,x,id,h=>j7 fs x id h
 | .clo _ _ _::fs,x,id,h=>j7 fs x id h
 | .wrd _ _::fs,x,id,h=>j7 fs x id h
 | .frz t i b::fs,x,id,h=>by
  simp only[cI,Bool.or_eq_false_iff]at h
  have hne:id≠i:=fun e=>by rw[e]at h;simp at h
  show((cV fs x.2).setS i _).slot id=_
  rw[St.setS_slot,cj _ _ hne]
  exact j7 fs x.2 id h.2
theorem js{sl sl':Nat→Slot G}:∀ (fs:List Form) (x:Bs G.T (cE fs)),(∀ id,cI id fs=true→sl id=sl' id)→gD sl' fs x→gD sl fs x
 | [],x,h,ha=>trivial
 | .val _ b::fs,x,h,ha=>js fs x.2 h ha
 | .own t i b::fs,x,h,ha=>⟨(h i (by simp[cI])).trans ha.1,js fs x.2 (fun id hid=>h id (by simp[cI,hid])) ha.2⟩
 | .slot i b box orig::fs,x,h,ha=>⟨(h i (by simp[cI])).trans ha.1,js fs x.2 (fun id hid=>h id (by simp[cI,hid])) ha.2⟩
 | .ptr _ _::fs,x,h,ha=>js fs x h ha
 | .ali _ _::fs,x,h,ha=>js fs x h ha
 | .clo _ _ _::fs,x,h,ha=>js fs x h ha
 | .wrd _ _::fs,x,h,ha=>js fs x h ha
 | .frz _ _ _::fs,x,h,ha=>ha.elim
variable {S:Nat→Prop} {w:World} {V v V0:Nat→Value}
theorem ki:∀ (fs:List Form) (x:Bs G.T (cE fs)) (F:List Nat),eD S w V v V0 fs (cL (cE fs) x) F→gD (cV fs x).slot fs x
 | [],x,F,h=>trivial
 | .val _ b::fs,x,F,⟨_,y,ds',e,_,_,h⟩=>by
  have:cL (cE fs) x.2=ds':=(aP e).2
  rw[← this]at h
  exact ki fs x.2 F h
 | .own t i b::fs,x,F,⟨hno,y,ds',F1,F2,e,_,_,_,_,h⟩=>by
  have:cL (cE fs) x.2=ds':=(aP e).2
  rw[← this]at h
  have ih:=ki fs x.2 F2 h
  have hsl:(cV (.own t i b::fs) x).slot=upd (cV fs x.2).slot i ⟨0,0,false,none,.data ⟨b,x.1⟩⟩:=St.setS_slot ..
  rw[hsl]
  exact⟨ck _ _ _,js fs x.2 (fun id hid=>cj _ _ fun e=>by rw[e,hno]at hid;cases hid) ih⟩
 | .slot i b box orig::fs,x,F,⟨hno,y,ds',F1,F2,e,_,_,_,h⟩=>by
  have:cL (cE fs) x.2=ds':=(aP e).2
  rw[← this]at h
  have ih:=ki fs x.2 F2 h
  have hsl:(cV (.slot i b box orig::fs) x).slot=upd (cV fs x.2).slot i ⟨0,0,box,orig,.data ⟨b,x.1⟩⟩:=St.setS_slot ..
  rw[hsl]
  exact⟨ck _ _ _,js fs x.2 (fun id hid=>cj _ _ fun e=>by rw[e,hno]at hid;cases hid) ih⟩
 | .ptr _ _::fs,x,F,⟨_,_,h⟩=>ki fs x F h
 | .ali _ _::fs,x,F,⟨_,h⟩=>ki fs x F h
 | .clo _ _ _::fs,x,F,⟨_,_,h⟩=>ki fs x F h
 | .wrd _ _::fs,x,F,⟨_,_,h⟩=>ki fs x F h
 | .frz _ _ _::fs,x,F,h=>h.elim
theorem ic{sl:Nat→Slot G}:∀ (fs:List Form) (x:Bs G.T (cE fs)) (F:List Nat) (id:Nat),eD S w V v V0 fs (cL (cE fs) x) F→gD sl fs x→dz id fs=true→(sl id).gen=0∧(sl id).born=0∧(sl id).box=true∧(∃ d,(sl id).cont = .data d)∧∃ b,V id = .pointer (some ⟨b,0,none⟩)
 | [],x,F,id,h,ha,hb=>by cases hb
 | .val _ b::fs,x,F,id,⟨_,y,ds',e,_,_,h⟩,ha,hb=>by
  have:cL (cE fs) x.2=ds':=(aP e).2
  rw[← this]at h
  exact ic fs x.2 F id h ha hb
 | .own t i b::fs,x,F,id,⟨hno,y,ds',F1,F2,e,_,_,_,_,h⟩,ha,hb=>by
  have:cL (cE fs) x.2=ds':=(aP e).2
  rw[← this]at h
  exact ic fs x.2 F2 id h ha.2 hb
 | .slot i b box orig::fs,x,F,id,⟨hno,y,ds',F1,F2,e,_,hd,_,h⟩,ha,hb=>by
  have:cL (cE fs) x.2=ds':=(aP e).2
  rw[← this]at h
  simp only[dz,aY,aD]at hb
  rcases hb with ⟨hb1,hb2⟩ | hb
  ·have e1:=cn hb1
   subst e1
   rw[ha.1]
   subst hb2
   unfold dw at hd
   rw[bw rfl]at hd
   obtain⟨b',c,E,F',k,_⟩:=hd
   exact⟨rfl,rfl,rfl,⟨_,rfl⟩,b',k⟩
  ·exact ic fs x.2 F2 id h ha.2 hb
 | .ptr _ _::fs,x,F,id,⟨_,_,h⟩,ha,hb=>ic fs x F id h ha hb
 | .ali _ _::fs,x,F,id,⟨_,h⟩,ha,hb=>ic fs x F id h ha hb
 | .clo _ _ _::fs,x,F,id,⟨_,_,h⟩,ha,hb=>ic fs x F id h ha hb
 | .wrd _ _::fs,x,F,id,⟨_,_,h⟩,ha,hb=>ic fs x F id h ha hb
 | .frz _ _ _::fs,x,F,id,h,ha,hb=>h.elim
theorem Jh{sl:Nat→Slot G}{id:Nat}{u:Value}(h:(sl id).gen=0∧(sl id).born=0∧(sl id).box=true∧(∃ d,(sl id).cont = .data d)∧∃ b,V id = .pointer (some ⟨b,0,none⟩))(hu:u=V id):b9 S w sl V (.ptr id [] 0 0) u:=by
 obtain⟨h1,h2,h3,_,b,h4⟩:=h
 exact⟨⟨by rw[h1];exact aK _,b,0,by rw[hu,h4]⟩,fun _ _=>⟨h3,b,h4,by rw[hu,h4]⟩,fun h=>by cases h⟩
theorem UR{sl:Nat→Slot G}{s g:Nat}{d:DV G.T}{u:Value}(hx:sl s=⟨g,g,false,none,.data d⟩)(hv:V s=u)(hsh:Shaped d.b u):b9 S w sl V (.ali s [] g) u:=by
 refine⟨by rw[hx];exact aK _,fun _ _ _=>hv.symm,fun _=>?_⟩
 refine⟨d,u.cells.toList,none,d,u.cells.toList,none,by rw[hx],?_,rfl,rfl,hsh⟩
 unfold Root
 rw[hx,hv,bz (by simp)]
 exact⟨rfl,rfl⟩
theorem j8{sl:Nat→Slot G}:∀ (fs:List Form) (x:Bs G.T (cE fs)) (F:List Nat),eD S w V v V0 fs (cL (cE fs) x) F→gD sl fs x→∀ t,b9 S w sl V ((cV fs x).pin t) (v t)
 | [],x,F,h,ha,t=>trivial
 | .val t0 b::fs,x,F,⟨hcp,y,ds',e,h1,h2,h⟩,ha,t=>by
  have e1:cL (cE fs) x.2=ds':=(aP e).2
  rw[← e1]at h
  have ih:=j8 fs x.2 F h ha
  show b9 S w sl V (((cV fs x.2).setP t0 (.val ⟨b,x.1⟩)).pin t) (v t)
  rw[St.setP_pin]
  by_cases et:t=t0
  ·subst et
   rw[ck]
   have e2:(⟨b,x.1⟩:DV G.T)=⟨b,y⟩:=(aP e).1
   rw[e2]
   exact⟨h1,h2,hcp⟩
  ·rw[cj _ _ et];exact ih t
 | .own t0 i b::fs,x,F,⟨hno,y,ds',F1,F2,e,_,h1,h2,h3,h⟩,ha,t=>by
  have e1:cL (cE fs) x.2=ds':=(aP e).2
  rw[← e1]at h
  have ih:=j8 fs x.2 F2 h ha.2
  show b9 S w sl V ((((cV fs x.2).setS i _).setP t0 (.ali i [] 0)).pin t) (v t)
  rw[St.setP_pin]
  by_cases et:t=t0
  ·subst et
   rw[ck]
   exact UR ha.1 h3 h2
  ·rw[cj _ _ et];exact ih t
 | .slot i b box orig::fs,x,F,⟨hno,y,ds',F1,F2,e,_,hd,_,h⟩,ha,t=>by
  have e1:cL (cE fs) x.2=ds':=(aP e).2
  rw[← e1]at h
  exact j8 fs x.2 F2 h ha.2 t
 | .ptr t0 i::fs,x,F,⟨hb,hv,h⟩,ha,t=>by
  show b9 S w sl V (((cV fs x).setP t0 (.ptr i [] 0 0)).pin t) (v t)
  rw[St.setP_pin]
  by_cases et:t=t0
  ·subst et
   rw[ck]
   exact Jh (ic fs x F i h ha hb) hv
  ·rw[cj _ _ et];exact j8 fs x F h ha t
 | .ali t0 t1::fs,x,F,⟨hv,h⟩,ha,t=>by
  show b9 S w sl V (((cV fs x).setP t0 ((cV fs x).pin t1)).pin t) (v t)
  rw[St.setP_pin]
  by_cases et:t=t0
  ·subst et
   rw[ck,hv]
   exact j8 fs x F h ha t1
  ·rw[cj _ _ et];exact j8 fs x F h ha t
 | .clo t0 f ids::fs,x,F,⟨hb,⟨vs,hv1,hv2⟩,h⟩,ha,t=>by
  show b9 S w sl V (((cV fs x).setP t0 (.clo f (ids.map fun i=>.ptr i [] 0 0))).pin t) (v t)
  rw[St.setP_pin]
  by_cases et:t=t0
  ·subst et
   rw[ck]
   refine⟨vs,hv1,?_⟩
   rw[hv2]
   have key:∀ (l:List Nat),(∀ id∈l,dz id fs=true)→PinsOK S w sl V (l.map fun i=>.ptr i [] 0 0) (l.map V):=by
    intro l
    induction l with
    | nil=>intro _;rfl
    | cons i l ih=>intro hl;exact⟨V i,l.map V,rfl,Jh (ic fs x F i h ha (hl i (aH ..))) rfl,ih fun id hid=>hl id (aI _ hid)⟩
   exact key ids hb
  ·rw[cj _ _ et];exact j8 fs x F h ha t
 | .wrd i i'::fs,x,F,⟨⟨hb,hb'⟩,hl,h⟩,ha,t=>by
  show b9 S w sl V (((cV fs x).setP (wT i) (.wrd i 0 i' 0)).pin t) (v t)
  rw[St.setP_pin]
  by_cases et:t=wT i
  ·subst et
   rw[ck]
   obtain⟨g1,g2,g3,g4,b,g5⟩:=ic fs x F i h ha hb
   obtain⟨k1,k2,k3,k4,b',k5⟩:=ic fs x F i' h ha hb'
   refine⟨Nat.zero_le _,⟨Nat.zero_le _,fun _=>⟨k3,b',k5⟩⟩,fun _ _=>⟨g4,?_⟩⟩
   unfold fd
   rw[bw g3]
   exact hl
  ·rw[cj _ _ et];exact j8 fs x F h ha t
 | .frz _ _ _::fs,x,F,h,ha,t=>h.elim
theorem ls{sl:Nat→Slot G}:∀ (fs:List Form) (x:Bs G.T (cE fs)) (F:List Nat),eD S w V v V0 fs (cL (cE fs) x) F→F.Nodup→∃ Ff:Nat→List Nat,(∀ s,cO S w sl V ((cV fs x).slot s) (V s) (Ff s))∧(∀ s,(Ff s).Sublist F)∧(∀ s,cI s fs=false→Ff s=[]) ∧
  (∀ s s',s≠s'→∀ b∈Ff s,b∉Ff s')∧(∀ s i,((cV fs x).slot s).orig=some i→((cV fs x).slot s).box=true→∀ cs ad,Root w ((cV fs x).slot s) (V s) cs ad→cs=(V0 (16*i)).cells.toList)∧(∀ s,((cV fs x).slot s).born=0)
 | [],x,F,h,hn=>⟨fun _=>[],fun s=>rfl,fun s=>List.nil_sublist _,fun s _=>rfl,fun s s' _ b hb=>(by cases hb),fun s i h1 h2=>(by cases h2),fun s=>rfl⟩
 | .val t0 b::fs,x,F,⟨hcp,y,ds',e,h1,h2,h⟩,hn=>by
  have e1:cL (cE fs) x.2=ds':=(aP e).2
  rw[← e1]at h
  exact ls fs x.2 F h hn
 | .own t0 id b::fs,x,F,⟨hno,y,ds',F1,F2,e,hF,h1,h2,h3,h⟩,hn=>by
  have e1:cL (cE fs) x.2=ds':=(aP e).2
  rw[← e1]at h
  rw[hF]at hn
  have hn':=aF.1 hn
  obtain⟨Ff,k1,k2,k3,k4,k5,k6⟩:=ls fs x.2 F2 h hn'.2.1
  have e2:(⟨b,x.1⟩:DV G.T)=⟨b,y⟩:=(aP e).1
  have hsl:(cV (.own t0 id b::fs) x).slot=upd (cV fs x.2).slot id ⟨0,0,false,none,.data ⟨b,x.1⟩⟩:=St.setS_slot ..
  refine⟨upd Ff id F1,fun s=>?_,fun s=>?_,fun s hs=>?_,fun s s' hne b' hb'=>?_,fun s i g1 g2 cs ad g3=>?_,fun s=>?_⟩
  ·rw[hsl]
   by_cases es:s=id
   ·subst es
    rw[ck,ck]
    refine(j5 rfl).2 ?_
    unfold dw
    rw[bz (by simp),h3,e2]
    exact⟨h1,h2⟩
   ·rw[cj _ _ es,cj _ _ es];exact k1 s
  ·by_cases es:s=id
   ·subst es;rw[ck,hF];exact List.sublist_append_left ..
   ·rw[cj _ _ es,hF];exact(k2 s).trans (List.sublist_append_right ..)
  ·simp only[cI,Bool.or_eq_false_iff]at hs
   have es:s≠id:=fun e=>by rw[e]at hs;simp at hs
   rw[cj _ _ es];exact k3 s hs.2
  ·by_cases es:s=id
   ·subst es
    rw[ck]at hb'
    rw[cj _ _ (fun e=>hne e.symm)]
    exact fun hb2=>hn'.2.2 b' hb' b' ((k2 s').subset hb2) rfl
   ·rw[cj _ _ es]at hb'
    by_cases es':s'=id
    ·subst es';rw[ck];exact fun hb2=>hn'.2.2 b' hb2 b' ((k2 s).subset hb') rfl
    ·rw[cj _ _ es'];exact k4 s s' hne b' hb'
  ·rw[hsl]at g1 g2 g3
   by_cases es:s=id
   ·subst es;rw[ck]at g1;cases g1
   ·rw[cj _ _ es]at g1 g2 g3;exact k5 s i g1 g2 cs ad g3
  ·rw[hsl]
   by_cases es:s=id
   ·subst es;rw[ck]
   ·rw[cj _ _ es];exact k6 s
 | .slot id b box orig::fs,x,F,⟨hno,y,ds',F1,F2,e,hF,hd,ho,h⟩,hn=>by
  have e1:cL (cE fs) x.2=ds':=(aP e).2
  rw[← e1]at h
  rw[hF]at hn
  have hn':=aF.1 hn
  obtain⟨Ff,k1,k2,k3,k4,k5,k6⟩:=ls fs x.2 F2 h hn'.2.1
  have e2:(⟨b,x.1⟩:DV G.T)=⟨b,y⟩:=(aP e).1
  have hsl:(cV (.slot id b box orig::fs) x).slot=upd (cV fs x.2).slot id ⟨0,0,box,orig,.data ⟨b,x.1⟩⟩:=St.setS_slot ..
  refine⟨upd Ff id F1,fun s=>?_,fun s=>?_,fun s hs=>?_,fun s s' hne b' hb'=>?_,fun s i g1 g2 cs ad g3=>?_,fun s=>?_⟩
  ·rw[hsl]
   by_cases es:s=id
   ·subst es
    rw[ck,ck]
    refine(j5 rfl).2 ?_
    rw[e2]
    exact hd
   ·rw[cj _ _ es,cj _ _ es];exact k1 s
  ·by_cases es:s=id
   ·subst es;rw[ck,hF];exact List.sublist_append_left ..
   ·rw[cj _ _ es,hF];exact(k2 s).trans (List.sublist_append_right ..)
  ·simp only[cI,Bool.or_eq_false_iff]at hs
   have es:s≠id:=fun e=>by rw[e]at hs;simp at hs
   rw[cj _ _ es];exact k3 s hs.2
  ·by_cases es:s=id
   ·subst es
    rw[ck]at hb'
    rw[cj _ _ (fun e=>hne e.symm)]
    exact fun hb2=>hn'.2.2 b' hb' b' ((k2 s').subset hb2) rfl
   ·rw[cj _ _ es]at hb'
    by_cases es':s'=id
    ·subst es';rw[ck];exact fun hb2=>hn'.2.2 b' hb2 b' ((k2 s).subset hb') rfl
    ·rw[cj _ _ es'];exact k4 s s' hne b' hb'
  ·rw[hsl]at g1 g2 g3
   by_cases es:s=id
   ·subst es
    rw[ck]at g1 g2 g3
    exact ho i g1 g2 cs ad g3
   ·rw[cj _ _ es]at g1 g2 g3;exact k5 s i g1 g2 cs ad g3
  ·rw[hsl]
   by_cases es:s=id
   ·subst es;rw[ck]
   ·rw[cj _ _ es];exact k6 s
 | .ptr _ _::fs,x,F,⟨_,_,h⟩,hn=>ls fs x F h hn
 | .ali _ _::fs,x,F,⟨_,h⟩,hn=>ls fs x F h hn
 | .clo _ _ _::fs,x,F,⟨_,_,h⟩,hn=>ls fs x F h hn
 | .wrd _ _::fs,x,F,⟨_,_,h⟩,hn=>ls fs x F h hn
 | .frz _ _ _::fs,x,F,h,hn=>h.elim
theorem ET{C:Ctx}{a:Act}{fs:List Form}{x:Bs G.T (cE fs)}{F:List Nat}(hH:eD S w V (fun t=>a.tmps.getD t undef) C.V0 fs (cL (cE fs) x) F)(hn:F.Nodup)(hF:∀ b∈F,¬ S b∧b<w.heap.size∧(b∈C.F0∨C.w0.heap.size≤b))
  (hbS:∀ b,S b→b<w.heap.size) (hfS:∀ b,S b→C.S0 b∨b∈C.F0∨C.w0.heap.size≤b) (hiS:∀ b,C.S0 b→S b) (hk:∀ b,b<C.w0.heap.size→b∉C.F0→w.heap[b]? = C.w0.heap[b]?) (hg:C.w0.heap.size≤w.heap.size)
  (hos:w.os=C.w0.os) (htp:w.tape=C.w0.tape) (hout:w.output=C.w0.output) (hd:a.defers=[]) (hsz:a.tmps.size=C.nt) (hV0:∀ s,s<16*C.np→V s=C.V0 s):∃ Ff,Ok C (cV fs x) a w S Ff V∧∀ s b,b∈Ff s→b∈F:=by
 have hA:=ki fs x F hH
 obtain⟨Ff,k1,k2,k3,k4,k5,k6⟩:=ls (sl:=(cV fs x).slot) fs x F hH hn
 exact⟨Ff,⟨j8 fs x F hH hA,k1,fun s=>by rw[k6 s];exact Nat.zero_le _,fun s=>hn.sublist (k2 s),k4,fun s b hb _=>(hF b ((k2 s).subset hb)).1,fun s b hb=>(hF b ((k2 s).subset hb)).2.1,hbS,hk,fun s b hb=>(hF b ((k2 s).subset hb)).2.2,hfS,hiS,hg,hos,htp,hout,hd,hsz,hV0,
  fun s i h1 h2 _ cs ad h3=>k5 s i h1 h2 cs ad h3⟩,fun s b hb=>(k2 s).subset hb⟩
theorem Y8{C:Ctx}{a:Act}{fs:List Form}{x:Bs G.T (cE fs)}{F:List Nat}(hH:eD S w V (fun t=>a.tmps.getD t undef) C.V0 fs (cL (cE fs) x) F)(hn:F.Nodup)(hF:∀ b∈F,¬ S b∧b<w.heap.size∧(b∈C.F0∨C.w0.heap.size≤b))
  (hbS:∀ b,S b→b<w.heap.size) (hfS:∀ b,S b→C.S0 b∨b∈C.F0∨C.w0.heap.size≤b) (hiS:∀ b,C.S0 b→S b) (hk:∀ b,b<C.w0.heap.size→b∉C.F0→w.heap[b]? = C.w0.heap[b]?) (hg:C.w0.heap.size≤w.heap.size)
  (hos:w.os=C.w0.os) (htp:w.tape=C.w0.tape) (hout:w.output=C.w0.output) (hd:a.defers=[]) (hsz:a.tmps.size=C.nt) (hV0:∀ s,s<16*C.np→V s=C.V0 s):df C (cV fs x) a w:=by
 obtain⟨Ff,h,_⟩:=ET hH hn hF hbS hfS hiS hk hg hos htp hout hd hsz hV0
 exact⟨S,Ff,V,h⟩
end
end
end Go.Proofs.YtemajhlhgphhjaaGreatDoor.E
