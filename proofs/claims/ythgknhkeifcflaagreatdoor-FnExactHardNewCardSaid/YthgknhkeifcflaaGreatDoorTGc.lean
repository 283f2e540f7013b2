/- slices.Insert of one struct and slices.Delete at the program's cells: what they make of the memory. No condition. -/
import Derived.Test.YthgknhkeifcflaaGreatDoorEG4
import Derived.Test.YthgknhkeifcflaaGreatDoorProg
import Derived.WalkKit
import Derived.Lib.Walk
import Derived.Lib.SliceRun
import Derived.Lib.AppendZeros
import Derived.Deep.RegionLaw
import Derived.Sort.WalkB12
import Derived.Shelf.Spec.SlicesInsertGrow
namespace Go.Proofs.YthgknhkeifcflaaGreatDoor.E
open Go.Shelf Go.RowKit Go.Lib Go.Sort
set_option linter.unusedVariables false
set_option maxHeartbeats 4000000
set_option maxRecDepth 1000000
theorem SX{P:Program}{ops:Array Oper}{o:Oper}{a:Act}{w:World}{K:Act→World→Prop}{Q:Exit→Act→World→Prop}{E:Prop}
  (hg:o.guard=none) (d x:Operand) (dT sT:TypeId) (hop:o.op=Op.call { callee:=Callee.builtin Builtin.append,args:=#[d,x],argTypes:=#[dT,sT] })
  (v u:Value) (hd:a.eval d=v) (hx:a.eval x=u) {v':Value} {w':World} (hr:(Builtin.append_ #[dT,sT] o.type #[v,u]).run P w = .ok v' w') (hK:K (a.put o.dst v') w') :
  if Region.wanted o (yielded ops a.tmps)=true then Oper.wp P o a w K Q else E:=by
 have hw:Region.wanted o (yielded ops a.tmps)=true:=by simp[Region.wanted,hg]
 rw[if_pos hw]
 unfold Oper.wp
 simp[execOp,hop,resolve,invoke,builtin,hd,hx,hr,Result.andThen]
 exact hK
theorem Qq{P:Program}(w:World)(t e ty:TypeId)(z:Value)(ht:P.underlying t=some (.slice e))(hv:∀ w,(zeroValue e).run P w = .ok z w)(h1:∀ u∈z.cells.toList,u.oneCell'=true)(hz:0<z.cells.size)(b o n k:Nat)(hn:0<n)
  (c:Array Value) (T:TypeId) (fz:Nat×Nat) (hb:w.heap[b]? = some (.cells c T fz)) (hfz:gh fz c.size) (hfit:o+n*z.cells.size≤c.size) :
  (Builtin.clear_ #[t] ty #[.slice (some ⟨b,o,none⟩) n k]).run P w = .ok (.tuple #[]) (w.setRow b (cB c o (List.replicate n z.cells.toList).flatten)):=by
 have hzs:=rg z.cells hz n
 have hzl:(List.replicate n z.cells.toList).flatten.length=n*z.cells.size:=by
  rw[List.length_flatten,List.map_replicate,Array.length_toList,List.sum_replicate_nat]
 have hst:=mq P b o T fz (List.replicate n z.cells.toList).flatten 0 c w hb hfz (by rw[hzl];simpa using hfit) (fun u hu=>by
  obtain⟨l0,hl0,hul⟩:=List.mem_flatten.1 hu
  rw[List.eq_of_mem_replicate hl0]at hul
  exact h1 u hul)
 simp only[Nat.add_zero]at hst
 obtain⟨m,rfl⟩:∃ m,n=m+1:=⟨n-1,by omega⟩
 have hc':cB c o (List.replicate (m+1) z.cells.toList).flatten=(c.toList.take o++((List.replicate (m+1) z.cells.toList).flatten++c.toList.drop (o+(m+1)*z.cells.size))).toArray:=by
  unfold cB
  rw[hzl,List.append_assoc]
 rw[hc']
 simp[Builtin.clear_,run_underlying ht,hv,hzs,hst]
theorem tv{P:Program}(w:World)(t tx ty e:TypeId)(i:TypeInfo)(ht:P.underlying t=some (.slice e))(hi:P.info? e=some i)(g o dLen dCap:Nat)(cur:Array Value)(T:TypeId)(fz:Nat×Nat)(hg:w.heap[g]? = some (.cells cur T fz))(hfz:gh fz cur.size)(x:Value)(ls k:Nat)(news:List Value)
  (hlen:(Builtin.lenOf x).run P w = .ok ls w) (hk:Nat.min ls dLen=k) (hcells:(Builtin.firstCells i.size k x).run P w = .ok news.toArray w) (hone:∀ u∈news,u.oneCell'=true) (hfit:o+news.length≤cur.size) :
  (Builtin.copy_ #[t,tx] ty #[.slice (some ⟨g,o,none⟩) dLen dCap,x]).run P w = .ok (goInt k) (w.setRow g (cB cur o news)):=by
 have hst:=mq P g o T fz news 0 cur w hg hfz (by simpa using hfit) hone
 simp only[Nat.add_zero]at hst
 have hst':(storeCells ⟨g,o,none⟩ news).run P w = .ok () (w.setRow g (cB cur o news)):=hst
 have hk':min ls dLen=k:=hk
 simp[Builtin.copy_,run_underlying ht,sizeOf,typeInfo,hi,hlen,hk',hcells,hst']
theorem nb{P:Program}{w:World}{b off n cap k:Nat}{c:Array Value}{T:TypeId}{fz:Nat×Nat}(hb:w.heap[b]? = some (.cells c T fz)){news:List Value}(hn:(c.toList.drop off).take (k*5)=news)(hl:news.length=k*5) :
  (Builtin.firstCells 5 k (.slice (some ⟨b,off,none⟩) n cap)).run P w = .ok news.toArray w:=by
 refine run_firstCells_some w 5 k _ n cap news hl fun j u hu=>?_
 rw[fP]
 simp only[World.cell?,hb]
 have hj:j<news.length:=(List.getElem?_eq_some_iff.1 hu).1
 rw[← hn,List.getElem?_take,if_pos (by omega),List.getElem?_drop]at hu
 simpa using hu
theorem Ch{w:World}{b:Nat}{c:Array Value}{T:TypeId}(hb:w.heap[b]? = some (.cells c T (0,0)))(o:Nat):w.frozen? ⟨b,o,none⟩=false:=by
 unfold World.frozen?;rw[hb];simp
theorem Hh{w:World}{b:Nat}{c:Array Value}{T:TypeId}{fz:Nat×Nat}(hb:w.heap[b]? = some (.cells c T fz)):w.shape? b=some (T,c.size):=by
 unfold World.shape?;rw[hb]
theorem PY{α:Type}(h:Array α)(o:α)(f:α→α):(h.push o).modify h.size f=h.push (f o):=by
 apply Array.ext_getElem?
 intro k
 rw[Array.getElem?_modify]
 by_cases hk:h.size=k
 ·subst hk;simp
 ·rw[if_neg hk,Array.getElem?_push,Array.getElem?_push,if_neg (fun e=>hk e.symm),if_neg (fun e=>hk e.symm)]
theorem He{w:World}{h:Array Obj}{c:Array Value}{T:TypeId}{fz:Nat×Nat}(hw:w.heap=h.push (.cells c T fz))(c':Array Value):(w.setRow h.size c').heap=h.push (.cells c' T fz):=by
 unfold World.setRow
 simp only
 rw[hw,PY]
theorem NH(b n cap i:Nat)(c:Array Value)(T:TypeId)(w:World)(hb:w.heap[b]? = some (.cells c T (0,0)))(hc:c.size=cap*5)(hone:∀ u∈c.toList.take (n*5),u.oneCell'=true)(hroom:n+1≤cap)(hm:cap≤9223372036854775807)(hi:i<n)
  (vb voff vc:Nat) (cv:Array Value) (Tv:TypeId) (hv:w.heap[vb]? = some (.cells cv Tv (0,0))) (hne:vb≠b) (vs:List Value) (hvs:(cv.toList.drop voff).take 5=vs) (hvl:vs.length=5) (h1v:∀ u∈vs,u.oneCell'=true) :
  Calls Tryz.prog 234 #[.slice (some ⟨b,0,none⟩) n cap,.int .i64 i,.slice (some ⟨vb,voff,none⟩) 1 vc] w fun e w' =>
   e = .returned (.slice (some ⟨b,0,none⟩) (n+1) cap)∧w'=(w.drew.setRow b (cB c ((i+1)*5) ((c.toList.drop (i*5)).take ((n-i)*5)))).setRow b (cB (cB c ((i+1)*5) ((c.toList.drop (i*5)).take ((n-i)*5))) (i*5) vs):=by
 have mixed:Tryz.prog.follows .mixedOrders=true:=by kernel_rfl
 obtain⟨inf,hinf,hsz⟩:∃ inf,Tryz.prog.info? 151=some inf∧inf.size=5:=⟨_,rfl,rfl⟩
 have hz2:¬ ((i:Int)=(n:Int)):=by omega
 have hov:∀ lb cb,(callFunc 276 #[.slice (some ⟨vb,voff,none⟩) 1 vc,.slice (some ⟨b,(i+1)*5,none⟩) lb cb]).run Tryz.prog w = .ok (.value (.bool false)) w:=fun lb cb=>by
  rw[run_callFunc_extern Tryz.func276 (by kernel_rfl) (by kernel_rfl) (by kernel_rfl) (e:=Extern.SlicesOverlaps.overlaps #[28,28] #[4]) (by kernel_rfl),
   Lib.run_overlaps_apart w 28 4 151 Tryz.underlying28 5 Tryz.sizeOf151 ⟨vb,voff,none⟩ ⟨b,(i+1)*5,none⟩ 1 vc lb cb hne Tv T cv.size c.size (Hh hv) (Hh hb) (by omega) (Ch hv _) (Ch hv _)]
  rfl
 obtain⟨news,hnews⟩:∃ news,news=(c.toList.drop (i*5)).take ((n-i)*5):=⟨_,rfl⟩
 have hnl:news.length=(n-i)*5:=by rw[hnews,List.length_take,List.length_drop,Array.length_toList];omega
 have hon:∀ u∈news,u.oneCell'=true:=fun u hu=>hone u (by rw[hnews,show(n-i)*5=n*5-i*5 by omega,← List.drop_take]at hu;exact List.mem_of_mem_drop hu)
 have hfit:(i+1)*5+news.length≤c.size:=by rw[hnl,hc];omega
 obtain⟨W1,hW1⟩:∃ W1,W1=w.drew.setRow b (cB c ((i+1)*5) news):=⟨_,rfl⟩
 have hbd:w.drew.heap[b]? = some (.cells c T (0,0)):=hb
 have hcp1:∀ ty dc sc,(Builtin.copy_ #[28,28] ty #[.slice (some ⟨b,(i+1)*5,none⟩) (n-i) dc,.slice (some ⟨b,i*5,none⟩) (n+1-i) sc]).run Tryz.prog w.drew = .ok (goInt ((n-i:Nat):Int)) W1:=fun ty dc sc=>by
  rw[hW1]
  exact tv (P:=Tryz.prog) w.drew 28 28 ty 151 inf Tryz.underlying28 hinf b ((i+1)*5) (n-i) dc c T _ hbd (.inl rfl) (.slice (some ⟨b,i*5,none⟩) (n+1-i) sc) (n+1-i) (n-i) news rfl (by show min _ _=_;omega) (by rw[hsz];exact nb (w:=w.drew) hbd hnews.symm hnl) hon hfit
 have hH1:W1.heap[b]? = some (.cells (cB c ((i+1)*5) news) T (0,0)):=by rw[hW1];exact setRow_heap w.drew b c _ T _ hb
 have hHv:W1.heap[vb]? = some (.cells cv Tv (0,0)):=by rw[hW1];exact(setRow_other w.drew b vb _ hne).trans hv
 have hos:(cB c ((i+1)*5) news).size=c.size:=jG hfit
 obtain⟨W2,hW2⟩:∃ W2,W2=W1.setRow b (cB (cB c ((i+1)*5) news) (i*5) vs):=⟨_,rfl⟩
 have hcp2:∀ ty dc,(Builtin.copy_ #[28,28] ty #[.slice (some ⟨b,i*5,none⟩) (n+1-i) dc,.slice (some ⟨vb,voff,none⟩) 1 vc]).run Tryz.prog W1 = .ok (goInt 1) W2:=fun ty dc=>by
  rw[hW2]
  exact tv (P:=Tryz.prog) W1 28 28 ty 151 inf Tryz.underlying28 hinf b (i*5) (n+1-i) dc _ T _ hH1 (.inl rfl) (.slice (some ⟨vb,voff,none⟩) 1 vc) 1 1 vs rfl (by show min _ _=_;omega) (by rw[hsz];exact nb (k:=1) hHv (by simpa using hvs) (by simpa using hvl)) h1v (by rw[hos,hvl,hc];omega)
 have X:Aside (W2=(w.drew.setRow b (cB c ((i+1)*5) ((c.toList.drop (i*5)).take ((n-i)*5)))).setRow b (cB (cB c ((i+1)*5) ((c.toList.drop (i*5)).take ((n-i)*5))) (i*5) vs)):=by rw[Aside];rw[hW2,hW1,hnews]
 have hw1:IntKind.i64.wrap ((i:Int)+1)=(i:Int)+1:=by rw[IntKind.wrap_i64];omega
 have hb1:(0:Int)≤(i:Int)+1:=by omega
 have hin:i≤n:=by omega
 have htn:((i:Int)+1).toNat=i+1:=by omega
 have hb2:¬ (cap=i+1):=by omega
 have hb3:(i:Int)≤(n:Int)+1:=by omega
 have hb4:¬ (cap=i):=by omega
 clear hb hbd hone hv hvs hvl h1v hnews hnl hon hfit hW1 hW2 hH1 hHv hos hinf
 go_enter Tryz.func234,Tryz.ntmps234
 go_wp2_with (simp only[hov])
 go_region_law_o (refine step_copy_runI rfl _ _ 28 28 rfl _ _ (by simp[Act.eval,Act.put]) (by simp[Act.eval,Act.put]) (hcp1 _ _ _) ?_)
 go_wp2_with (at_builtin;refine wpList_copy_runI _ rfl _ _ 28 28 rfl _ _ rfl rfl (hcp2 _ _) ?_)
 go_ret
 exact⟨rfl,X.out⟩
theorem NE(b n cap:Nat)(c:Array Value)(T:TypeId)(w:World)(hb:w.heap[b]? = some (.cells c T (0,0)))(hc:c.size=cap*5)(hroom:n+1≤cap)(hm:cap≤9223372036854775807)
  (vb voff vc:Nat) (cv:Array Value) (Tv:TypeId) (hv:w.heap[vb]? = some (.cells cv Tv (0,0))) (vs:List Value) (hvs:(cv.toList.drop voff).take 5=vs) (hvl:vs.length=5) (h1v:∀ u∈vs,u.oneCell'=true) :
  Calls Tryz.prog 234 #[.slice (some ⟨b,0,none⟩) n cap,.int .i64 n,.slice (some ⟨vb,voff,none⟩) 1 vc] w fun e w' =>
   e = .returned (.slice (some ⟨b,0,none⟩) (n+1) cap)∧w'=w.setRow b (cB c (n*5) vs):=by
 have mixed:Tryz.prog.follows .mixedOrders=true:=by kernel_rfl
 obtain⟨inf,hinf,hsz⟩:∃ inf,Tryz.prog.info? 151=some inf∧inf.size=5:=⟨_,rfl,rfl⟩
 have hsrc:Src Tryz.prog inf.size 28 (.slice (some ⟨vb,voff,none⟩) 1 vc) 1 vs w:=by
  rw[hsz];exact oJ (.inl ⟨151,Tryz.underlying28⟩) hv (by simpa using hvs) (by simpa using hvl) h1v
 have hrun:∀ ty,(Builtin.append_ #[28,28] ty #[.slice (some ⟨b,0,none⟩) n cap,.slice (some ⟨vb,voff,none⟩) 1 vc]).run Tryz.prog w = .ok (.slice (some ⟨b,0,none⟩) (n+1) cap) (w.setRow b (cB c (n*5) vs)):=fun ty=>by
  have h:=yY (P:=Tryz.prog) w 28 28 ty 151 inf Tryz.underlying28 hinf b n cap c T _ hb (.inl rfl) (.slice (some ⟨vb,voff,none⟩) 1 vc) 1 vs hsrc hroom (by rw[hsz,hvl,hc];omega)
  rw[hsz]at h
  exact h
 clear hb hc hv hvs hvl h1v hsrc hinf hsz
 go_enter Tryz.func234,Tryz.ntmps234
 go_wp2_with (at_builtin;refine Lib.wpList_append_run _ rfl _ _ _ _ rfl _ _ rfl rfl _ _ (hrun _) ?_)
 go_ret
 exact⟨rfl,rfl⟩
theorem DR(base:Option Addr)(n cap:Nat)(hbase:∀ a,base=some a→∃ b o,a=⟨b,o,none⟩)(hnil:base=none→n=0)(olds:List Value)(w:World)(hold:(Builtin.firstCells 5 n (.slice base n cap)).run Tryz.prog w.drew = .ok olds.toArray w.drew)(hol:olds.length=n*5)(hnc:n≤cap)(hroom:cap<n+1)(hbig:n≤1000000)
  (vb voff vc:Nat) (cv:Array Value) (Tv:TypeId) (hv:w.heap[vb]? = some (.cells cv Tv (0,0))) (vs:List Value) (hvs:(cv.toList.drop voff).take 5=vs) (hvl:vs.length=5) (h1v:∀ u∈vs,u.oneCell'=true) :
  Calls Tryz.prog 234 #[.slice base n cap,.int .i64 n,.slice (some ⟨vb,voff,none⟩) 1 vc] w fun e w' =>
   ∃ G,e = .returned (.slice (some ⟨w.heap.size,0,none⟩) (n+1) G)∧n+1≤G∧G≤9223372036854775807∧∃ row,row.size=G*5∧row.toList.take ((n+1)*5)=olds++vs∧w'=w.drew.alloc (.cells row 151):=by
 have mixed:Tryz.prog.follows .mixedOrders=true:=by kernel_rfl
 obtain⟨inf,z,hinf,hsz,hzz,hz5,hby⟩:∃ inf z,Tryz.prog.info? 151=some inf∧inf.size=5∧inf.zero=some z∧z.cells.size=5∧inf.bytes=56:=⟨_,_,rfl,rfl,rfl,rfl,rfl⟩
 have hsrc:Src Tryz.prog inf.size 28 (.slice (some ⟨vb,voff,none⟩) 1 vc) 1 vs w:=by
  rw[hsz];exact oJ (.inl ⟨151,Tryz.underlying28⟩) hv (by simpa using hvs) (by simpa using hvl) h1v
 obtain⟨G,hG⟩:∃ G,G=grownCap w (n+1) cap 151:=⟨_,rfl⟩
 obtain⟨row,hrow⟩:∃ row,row=(olds++vs).toArray++Builtin.zeroCells z.cells (G-(n+1)):=⟨_,rfl⟩
 have hrun:∀ ty,(Builtin.append_ #[28,28] ty #[.slice base n cap,.slice (some ⟨vb,voff,none⟩) 1 vc]).run Tryz.prog w = .ok (.slice (some ⟨w.heap.size,0,none⟩) (n+1) G) (w.drew.alloc (.cells row 151)):=fun ty=>by
  have h:=run_append_grow_src (P:=Tryz.prog) w 28 28 ty 151 inf z Tryz.underlying28 hinf hzz base n cap olds (by rw[hsz];exact hold) (.slice (some ⟨vb,voff,none⟩) 1 vc) 1 vs hsrc hroom (by omega) (growslice_fits hroom (by rw[hby];omega))
  rw[← hG,← hrow]at h
  exact h
 have hGn:n+1≤G:=by rw[hG];exact grownCap_ge ..
 have hGm:G≤9223372036854775807:=by
  have:=grownCap_le_maxLen w (n+1) cap 151 (by unfold maxLen;omega)
  rw[← hG]at this;unfold maxLen at this;omega
 have hrs:row.size=G*5:=by
  rw[hrow,Array.size_append,List.size_toArray,List.length_append,hol,hvl,← Array.length_toList,rg z.cells (by rw[hz5];decide),List.length_flatten,List.map_replicate,Array.length_toList,List.sum_replicate_nat,hz5];omega
 have hrt:row.toList.take ((n+1)*5)=olds++vs:=by
  rw[hrow,Array.toList_append]
  exact List.take_left' (by rw[List.length_append,hol,hvl];omega)
 clear hv hvs hvl h1v hsrc hinf hsz hzz hz5 hby hold hol hrow hG
 go_enter Tryz.func234,Tryz.ntmps234
 cases base with
 | none =>
  have h0:=hnil rfl
  subst h0
  go_wp2_with (at_builtin;refine Lib.wpList_append_run _ rfl _ _ _ _ rfl _ _ rfl rfl _ _ (hrun _) ?_)
  go_ret
  exact⟨G,rfl,hGn,hGm,row,hrs,hrt,rfl⟩
 | some a =>
  obtain⟨b,o,rfl⟩:=hbase a rfl
  go_wp2_with (at_builtin;refine Lib.wpList_append_run _ rfl _ _ _ _ rfl _ _ rfl rfl _ _ (hrun _) ?_)
  all_goals (go_ret;exact⟨G,rfl,hGn,hGm,row,hrs,hrt,rfl⟩)
theorem NF(b n cap i:Nat)(c:Array Value)(T:TypeId)(w:World)(hb:w.heap[b]? = some (.cells c T (0,0)))(hc:c.size=cap*5)(hone:∀ u∈c.toList.take (n*5),u.oneCell'=true)(hnc:n≤cap)(hroom:cap<n+1)(hbig:n≤1000000)(hi:i<n)
  (vb voff vc:Nat) (cv:Array Value) (Tv:TypeId) (hv:w.heap[vb]? = some (.cells cv Tv (0,0))) (vs:List Value) (hvs:(cv.toList.drop voff).take 5=vs) (hvl:vs.length=5) (h1v:∀ u∈vs,u.oneCell'=true) :
  Calls Tryz.prog 234 #[.slice (some ⟨b,0,none⟩) n cap,.int .i64 i,.slice (some ⟨vb,voff,none⟩) 1 vc] w fun e w' =>
   ∃ G,e = .returned (.slice (some ⟨w.heap.size,0,none⟩) (n+1) G)∧n+1≤G∧G≤9223372036854775807∧∃ row,row.size=G*5∧row.toList.take ((n+1)*5)=c.toList.take (i*5)++(vs++(c.toList.drop (i*5)).take ((n-i)*5))∧w'.heap=w.heap.push (.cells row 151 (0,0))∧w'.os=w.os∧w'.tape=w.tape∧w'.output=w.output:=by
 have mixed:Tryz.prog.follows .mixedOrders=true:=by kernel_rfl
 obtain⟨inf,z,hinf,hsz,hzz,hz5,hby⟩:∃ inf z,Tryz.prog.info? 151=some inf∧inf.size=5∧inf.zero=some z∧z.cells.size=5∧inf.bytes=56:=⟨_,_,rfl,rfl,rfl,rfl,rfl⟩
 have hz2:¬ ((i:Int)=(n:Int)):=by omega
 have hz3:(cap:Int)<(n:Int)+1:=by omega
 have hkk:(n:Int)+1-(i:Int)=((n+1-i:Nat):Int):=by omega
 have hik:i+(n+1-i)=n+1:=by omega
 obtain⟨olds,holds⟩:∃ olds,olds=c.toList.take (i*5):=⟨_,rfl⟩
 have hol:olds.length=i*5:=by rw[holds,List.length_take,Array.length_toList];omega
 have hold:(Builtin.firstCells inf.size i (.slice (some ⟨b,0,none⟩) i cap)).run Tryz.prog w.drew = .ok olds.toArray w.drew:=by
  rw[hsz];exact nb (w:=w.drew) hb (by rw[List.drop_zero];exact holds.symm) hol
 obtain⟨G,hG⟩:∃ G,G=grownCap w (n+1) cap 151:=⟨_,rfl⟩
 obtain⟨ROW,hROW⟩:∃ ROW:Array Value,ROW=olds.toArray++Builtin.zeroCells z.cells (n+1-i)++Builtin.zeroCells z.cells (G-(n+1)):=⟨_,rfl⟩
 obtain⟨W1,hW1⟩:∃ W1,W1=w.drew.alloc (.cells ROW 151):=⟨_,rfl⟩
 have hrz:∀ ty,(Builtin.append_ #[28,3] ty #[.slice (some ⟨b,0,none⟩) i cap,.int .i64 ((n:Int)+1-(i:Int))]).run Tryz.prog w = .ok (.slice (some ⟨w.heap.size,0,none⟩) (n+1) G) W1:=fun ty=>by
  have h:=Lib.run_append_grow_zeros (P:=Tryz.prog) w 28 3 ty 151 inf z .i64 .i64 Tryz.underlying28 Tryz.underlying3 hinf hzz (some ⟨b,0,none⟩) i cap olds hold (n+1-i) (by omega) (by omega) (by omega) (by omega) (by rw[hby];omega) (by rw[hby,hik];exact growslice_fits hroom (by omega))
  rw[hik,← hG,← hROW,← hW1]at h
  rw[hkk]
  exact h
 have hGn:n+1≤G:=by rw[hG];exact grownCap_ge ..
 have hGm:G≤9223372036854775807:=by
  have:=grownCap_le_maxLen w (n+1) cap 151 (by unfold maxLen;omega)
  rw[← hG]at this;unfold maxLen at this;omega
 have hzl:∀ k,(Builtin.zeroCells z.cells k).size=k*5:=fun k=>by
  rw[← Array.length_toList,rg z.cells (by rw[hz5];decide),List.length_flatten,List.map_replicate,Array.length_toList,List.sum_replicate_nat,hz5]
 have hRs:ROW.size=G*5:=by
  rw[hROW,Array.size_append,Array.size_append,List.size_toArray,hol,hzl,hzl];omega
 have hbw:b<w.heap.size:=(Array.getElem?_eq_some_iff.1 hb).1
 have hvw:vb<w.heap.size:=(Array.getElem?_eq_some_iff.1 hv).1
 have hH1:W1.heap[w.heap.size]? = some (.cells ROW 151 (0,0)):=by rw[hW1];exact heap_alloc_new w.drew _
 have hHv:W1.heap[vb]? = some (.cells cv Tv (0,0)):=by rw[hW1];exact(Grows.alloc w.drew _).old vb hvw |>.trans hv
 have hHb:W1.heap[b]? = some (.cells c T (0,0)):=by rw[hW1];exact(Grows.alloc w.drew _).old b hbw |>.trans hb
 obtain⟨news,hnews⟩:∃ news,news=(c.toList.drop (i*5)).take ((n-i)*5):=⟨_,rfl⟩
 have hnl:news.length=(n-i)*5:=by rw[hnews,List.length_take,List.length_drop,Array.length_toList];omega
 have hon:∀ u∈news,u.oneCell'=true:=fun u hu=>hone u (by rw[hnews,show(n-i)*5=n*5-i*5 by omega,← List.drop_take]at hu;exact List.mem_of_mem_drop hu)
 have hfA:i*5+vs.length≤ROW.size:=by rw[hvl,hRs];omega
 obtain⟨R1,hR1⟩:∃ R1,R1=cB ROW (i*5) vs:=⟨_,rfl⟩
 have hR1s:R1.size=G*5:=by rw[hR1,jG hfA,hRs]
 have hfB:(i+1)*5+news.length≤R1.size:=by rw[hnl,hR1s];omega
 obtain⟨W2,hW2⟩:∃ W2,W2=W1.setRow w.heap.size R1:=⟨_,rfl⟩
 have hcpA:∀ ty dc,(Builtin.copy_ #[28,28] ty #[.slice (some ⟨w.heap.size,i*5,none⟩) (n+1-i) dc,.slice (some ⟨vb,voff,none⟩) 1 vc]).run Tryz.prog W1 = .ok (goInt 1) W2:=fun ty dc=>by
  rw[hW2,hR1]
  exact tv (P:=Tryz.prog) W1 28 28 ty 151 inf Tryz.underlying28 hinf w.heap.size (i*5) (n+1-i) dc ROW 151 _ hH1 (.inl rfl) (.slice (some ⟨vb,voff,none⟩) 1 vc) 1 1 vs rfl (by show min _ _=_;omega) (by rw[hsz];exact nb (k:=1) hHv (by simpa using hvs) (by simpa using hvl)) h1v hfA
 have hH2:W2.drew.heap[w.heap.size]? = some (.cells R1 151 (0,0)):=by rw[hW2];exact setRow_heap W1 w.heap.size ROW _ 151 _ hH1
 have hHb2:W2.drew.heap[b]? = some (.cells c T (0,0)):=by rw[hW2];exact(setRow_other W1 w.heap.size b _ (by omega)).trans hHb
 obtain⟨W3,hW3⟩:∃ W3,W3=W2.drew.setRow w.heap.size (cB R1 ((i+1)*5) news):=⟨_,rfl⟩
 have hcpB:∀ ty dc sc,(Builtin.copy_ #[28,28] ty #[.slice (some ⟨w.heap.size,(i+1)*5,none⟩) (n-i) dc,.slice (some ⟨b,i*5,none⟩) (n-i) sc]).run Tryz.prog W2.drew = .ok (goInt ((n-i:Nat):Int)) W3:=fun ty dc sc=>by
  rw[hW3]
  exact tv (P:=Tryz.prog) W2.drew 28 28 ty 151 inf Tryz.underlying28 hinf w.heap.size ((i+1)*5) (n-i) dc R1 151 _ hH2 (.inl rfl) (.slice (some ⟨b,i*5,none⟩) (n-i) sc) (n-i) (n-i) news rfl (by show min _ _=_;omega) (by rw[hsz];exact nb hHb2 hnews.symm hnl) hon hfB
 have hend:(cB R1 ((i+1)*5) news).size=G*5∧(cB R1 ((i+1)*5) news).toList.take ((n+1)*5)=c.toList.take (i*5)++(vs++(c.toList.drop (i*5)).take ((n-i)*5))∧W3.heap=w.heap.push (.cells (cB R1 ((i+1)*5) news) 151 (0,0))∧W3.os=w.os∧W3.tape=w.tape∧W3.output=w.output:=by
  refine⟨by rw[jG hfB,hR1s],?_,?_,by rw[hW3,hW2,hW1];rfl,by rw[hW3,hW2,hW1];rfl,by rw[hW3,hW2,hW1];rfl⟩
  ·rw[← hnews]
   have hA:R1.toList.take ((i+1)*5)=olds++vs:=by
    rw[hR1]
    show((ROW.toList.take (i*5)++vs)++ROW.toList.drop (i*5+vs.length)).take ((i+1)*5)=_
    have hB:ROW.toList.take (i*5)=olds:=by
     rw[hROW,Array.toList_append,Array.toList_append,List.append_assoc]
     exact List.take_left' hol
    rw[hB]
    exact List.take_left' (by rw[List.length_append,hol,hvl];omega)
   show((R1.toList.take ((i+1)*5)++news)++R1.toList.drop ((i+1)*5+news.length)).take ((n+1)*5)=_
   rw[hA,← holds,← List.append_assoc]
   exact List.take_left' (by rw[List.length_append,List.length_append,hol,hvl,hnl];omega)
  ·rw[hW3]
   refine He (w:=W2.drew) (c:=R1) ?_ _
   show W2.heap=_
   rw[hW2]
   refine He (c:=ROW) ?_ _
   rw[hW1]
   rfl
 have hb1:(0:Int)≤(i:Int)+1:=by omega
 have hw1:IntKind.i64.wrap ((i:Int)+1)=(i:Int)+1:=by rw[IntKind.wrap_i64];omega
 have hin:i≤n:=by omega
 have htn:((i:Int)+1).toNat=i+1:=by omega
 have hb3:(i:Int)≤(n:Int):=by omega
 have hci:¬ (cap=i):=by omega
 have hGi:¬ (G=i):=by omega
 have hGim:¬ (G=i+1):=by omega
 obtain⟨R2,hR2⟩:∃ R2,R2=cB R1 ((i+1)*5) news:=⟨_,rfl⟩
 rw[← hR2]at hend
 clear hb hc hone hv hvs hvl h1v hinf hsz hzz hz5 hby hik holds hol hold hG hROW hW1 hzl hRs hbw hvw hH1 hHv hHb hnews hnl hon hfA hR1 hR1s hfB hW2 hH2 hHb2 hW3 hR2 hkk
 go_enter Tryz.func234,Tryz.ntmps234
 go_wp2_with (first
  | (at_builtin;refine Lib.wpList_append_run _ rfl _ _ _ _ rfl _ _ rfl rfl _ _ (hrz _) ?_)
  | (at_builtin;refine wpList_copy_runI _ rfl _ _ 28 28 rfl _ _ rfl rfl (hcpA _ _) ?_))
 go_region_law_o (refine step_copy_runI rfl _ _ 28 28 rfl _ _ (by simp[Act.eval,Act.put]) (by simp[Act.eval,Act.put]) (hcpB _ _ _) ?_)
 go_wp2
 go_ret
 exact⟨G,rfl,hGn,hGm,R2,hend⟩
theorem Ko(b n cap i j:Nat)(c:Array Value)(T:TypeId)(fz:Nat×Nat)(w:World)(hb:w.heap[b]? = some (.cells c T fz))(hfz:gh fz c.size)(hc:c.size=cap*5)(hone:∀ u∈c.toList.take (n*5),u.oneCell'=true)(hn:n≤cap)(hm:cap≤9223372036854775807)(hij:i<j)(hj:j≤n) :
  Calls Tryz.prog 195 #[.slice (some ⟨b,0,none⟩) n cap,.int .i64 i,.int .i64 j] w fun e w' =>
   e = .returned (.slice (some ⟨b,0,none⟩) (n-(j-i)) cap)∧∃ zs,zs.length=(j-i)*5∧w'=(w.drew.setRow b (cB c (i*5) ((c.toList.drop (j*5)).take ((n-j)*5)))).setRow b (cB (cB c (i*5) ((c.toList.drop (j*5)).take ((n-j)*5))) ((i+(n-j))*5) zs):=by
 have heq:¬ (i=j):=by omega
 have mixed:Tryz.prog.follows .mixedOrders=true:=by kernel_rfl
 have hic:i≤cap:=by omega
 have hjc:j≤cap:=by omega
 obtain⟨inf,hinf,hsz⟩:∃ inf,Tryz.prog.info? 151=some inf∧inf.size=5:=⟨_,rfl,rfl⟩
 obtain⟨news,hnews⟩:∃ news,news=(c.toList.drop (j*5)).take ((n-j)*5):=⟨_,rfl⟩
 have hnl:news.length=(n-j)*5:=by rw[hnews,List.length_take,List.length_drop,Array.length_toList];omega
 have hon:∀ u∈news,u.oneCell'=true:=fun u hu=>hone u (by rw[hnews,show(n-j)*5=n*5-j*5 by omega,← List.drop_take]at hu;exact List.mem_of_mem_drop hu)
 obtain⟨A,hA,hsrc⟩:∃ A:Addr,(if cap=j then some (⟨b,0,none⟩:Addr)else some ⟨b,j*5,none⟩)=some A∧Src Tryz.prog inf.size 28 (.slice (some A) (n-j) (cap-j)) (n-j) news w.drew:=by
  rw[hsz]
  by_cases h:cap=j
  ·refine⟨⟨b,0,none⟩,by simp[h],oJ (w:=w.drew) (.inl ⟨151,Tryz.underlying28⟩) hb ?_ hnl hon⟩
   have h0:news.length=0:=by rw[hnl];omega
   rw[List.length_eq_zero_iff.1 h0,show n-j=0 by omega];simp
  ·exact⟨⟨b,j*5,none⟩,by simp[h],oJ (w:=w.drew) (.inl ⟨151,Tryz.underlying28⟩) hb hnews.symm hnl hon⟩
 have hfit:i*inf.size+news.length≤c.size:=by rw[hsz,hnl,hc];omega
 have hap:=fun ty=>yY (P:=Tryz.prog) w.drew 28 28 ty 151 inf Tryz.underlying28 hinf b i cap c T fz hb hfz (.slice (some A) (n-j) (cap-j)) (n-j) news hsrc (by omega) hfit
 rw[hsz]at hap
 obtain⟨W1,hW1⟩:∃ W1,W1=w.drew.setRow b (cB c (i*5) news):=⟨_,rfl⟩
 have hap':∀ ty,(Builtin.append_ #[28,28] ty #[.slice (some ⟨b,0,none⟩) i cap,.slice (some A) (n-j) (cap-j)]).run Tryz.prog w.drew = .ok (.slice (some ⟨b,0,none⟩) (i+(n-j)) cap) W1:=fun ty=>by rw[hap ty,hW1];rfl
 have hH1:W1.heap[b]? = some (.cells (cB c (i*5) news) T fz):=by rw[hW1];exact setRow_heap w.drew b c _ T _ hb
 have hos:(cB c (i*5) news).size=c.size:=jG (by rw[hsz]at hfit;exact hfit)
 obtain⟨zs,hzl,hcl⟩:∃ zs:List Value,zs.length=(j-i)*5∧∀ ty,(Builtin.clear_ #[28] ty #[.slice (some ⟨b,(i+(n-j))*5,none⟩) (n-(i+(n-j))) (cap-(i+(n-j)))]).run Tryz.prog W1 = .ok (.tuple #[]) (W1.setRow b (cB (cB c (i*5) news) ((i+(n-j))*5) zs)):=by
  obtain⟨z,hz,hz5,hz1⟩:∃ z,(∀ w,(zeroValue 151).run Tryz.prog w = .ok z w)∧z.cells.size=5∧∀ u∈z.cells.toList,u.oneCell'=true:=⟨_,Tryz.zeroValue151,rfl,by decide⟩
  refine⟨(List.replicate (n-(i+(n-j))) z.cells.toList).flatten,?_,fun ty=>Qq W1 28 151 ty z Tryz.underlying28 hz hz1 (by rw[hz5];decide) b _ _ _ (by omega) _ T fz hH1 (by rw[hos];exact hfz) (by rw[hos,hz5,hc];omega)⟩
  rw[List.length_flatten,List.map_replicate,Array.length_toList,List.sum_replicate_nat,hz5];congr 1;omega
 have X:Aside (W1=w.drew.setRow b (cB c (i*5) news)):=hW1
 have Y:Aside (news=(c.toList.drop (j*5)).take ((n-j)*5)):=hnews
 clear hW1 hap hH1 hb hnews hsrc hfit hon hos hinf
 go_enter Tryz.func195,Tryz.ntmps195
 go_wp2_with fail
 go_region_law_o (refine SX rfl _ _ 28 28 rfl _ _ (by simp[Act.eval,Act.put]) (by simp[Act.eval,Act.put]) (hap' _) ?_)
 go_wp2
 go_ret
 exact⟨by rw[show n-(j-i)=i+(n-j) by omega];rfl,zs,hzl,by rw[← Y.out,← X.out]⟩
theorem JS:AE Tryz.prog 195:=fun b n cap i j c T w hb hc hone hn hm hij hj=>Ko b n cap i j c T (0,0) w hb (.inl rfl) hc hone hn hm hij hj
theorem Tb{c:List Value}{n i:Nat}(h:i≤n):(c.take (n*5)).drop (i*5)=(c.drop (i*5)).take ((n-i)*5):=by
 rw[List.drop_take,show n*5-i*5=(n-i)*5 by omega]
theorem JT:AH Tryz.prog 234:=by
 intro base n cap i cs w hnil hsome hcs hn hbig hm hi vb vc cv Tv hv hne vs hvs hvl h1v
 have hvs':(cv.toList.drop 0).take 5=vs:=hvs
 cases base with
 | none =>
  obtain⟨rfl,rfl⟩:=hnil rfl
  obtain rfl:i=0:=Nat.le_zero.1 hi
  obtain rfl:=hcs rfl
  refine(DR none 0 0 (fun a h=>by cases h) (fun _=>rfl) [] w (run_firstCells_none w.drew 5 0 0 0) rfl (Nat.le_refl _) (by decide) (by decide) vb 0 vc cv Tv hv vs hvs' hvl h1v).mono fun e w' ⟨G,he,h1,h2,row,h3,h4,hw⟩=>?_
  rw[hw]
  exact⟨w.heap.size,G,row,151,he,h1,h2,h3,by rw[h4];simp,heap_alloc_new w.drew _,.inr rfl,fun x hx _=>((Grows.drew w).trans (Grows.alloc w.drew _)).old x hx,((Grows.drew w).trans (Grows.alloc w.drew _)).size,rfl,rfl,rfl⟩
 | some a =>
  obtain⟨b,c,T,rfl,hb,hc,hone,rfl⟩:=hsome a rfl
  have hvb:vb≠b:=hne _ rfl
  have hbs:b<w.heap.size:=(Array.getElem?_eq_some_iff.1 hb).1
  have hcl:n*5≤c.toList.length:=by rw[Array.length_toList,hc];omega
  rw[List.take_take,Nat.min_eq_left (by omega),Tb hi]
  by_cases hin:i=n
  ·subst hin
   rw[Nat.sub_self,Nat.zero_mul,List.take_zero,List.append_nil]
   by_cases hr:i+1≤cap
   ·refine(NE b i cap c T w hb hc hr hm vb 0 vc cv Tv hv vs hvs' hvl h1v).mono fun e w' ⟨he,hw⟩=>?_
    rw[hw]
    refine⟨b,cap,cB c (i*5) vs,T,he,hr,hm,by rw[jG (by rw[hvl,hc];omega),hc],?_,setRow_heap w b c _ T _ hb,.inl ⟨_,rfl,rfl⟩,fun x _ hx=>setRow_other w b x _ (hx _ rfl),by rw[size_setRow];exact Nat.le_refl _,rfl,rfl,rfl⟩
    show((c.toList.take (i*5)++vs)++c.toList.drop (i*5+vs.length)).take ((i+1)*5)=_
    exact List.take_left' (by rw[List.length_append,List.length_take,hvl];omega)
   ·refine(DR (some ⟨b,0,none⟩) i cap (fun a h=>by cases h;exact⟨b,0,rfl⟩) (fun h=>by cases h) (c.toList.take (i*5)) w (nb (w:=w.drew) hb (by rw[List.drop_zero]) (by rw[List.length_take];omega)) (by rw[List.length_take];omega) hn (by omega) hbig vb 0 vc cv Tv hv vs hvs' hvl h1v).mono fun e w' ⟨G,he,h1,h2,row,h3,h4,hw⟩=>?_
    rw[hw]
    exact⟨w.heap.size,G,row,151,he,h1,h2,h3,h4,heap_alloc_new w.drew _,.inr rfl,fun x hx _=>((Grows.drew w).trans (Grows.alloc w.drew _)).old x hx,((Grows.drew w).trans (Grows.alloc w.drew _)).size,rfl,rfl,rfl⟩
  ·have hlt:i<n:=by omega
   by_cases hr:n+1≤cap
   ·refine(NH b n cap i c T w hb hc hone hr hm hlt vb 0 vc cv Tv hv hvb vs hvs' hvl h1v).mono fun e w' ⟨he,hw⟩=>?_
    have hnl:((c.toList.drop (i*5)).take ((n-i)*5)).length=(n-i)*5:=by rw[List.length_take,List.length_drop];omega
    have hA:(i+1)*5+((c.toList.drop (i*5)).take ((n-i)*5)).length≤c.size:=by rw[hnl,hc];omega
    have hs1:=jG hA
    have h1:=setRow_heap w.drew b c (cB c ((i+1)*5) ((c.toList.drop (i*5)).take ((n-i)*5))) T (0,0) hb
    have h2:=setRow_heap _ b _ (cB (cB c ((i+1)*5) ((c.toList.drop (i*5)).take ((n-i)*5))) (i*5) vs) T (0,0) h1
    rw[hw]
    refine⟨b,cap,_,T,he,hr,hm,by rw[jG (by rw[hs1,hvl,hc];omega),hs1,hc],?_,h2,.inl ⟨_,rfl,rfl⟩,fun x _ hx=>(setRow_other _ b x _ (hx _ rfl)).trans (setRow_other _ b x _ (hx _ rfl)),by rw[size_setRow,size_setRow];exact Nat.le_refl _,rfl,rfl,rfl⟩
    have e1:(cB c ((i+1)*5) ((c.toList.drop (i*5)).take ((n-i)*5))).toList=(c.toList.take ((i+1)*5)++(c.toList.drop (i*5)).take ((n-i)*5))++c.toList.drop ((i+1)*5+((c.toList.drop (i*5)).take ((n-i)*5)).length):=rfl
    show(((cB c ((i+1)*5) ((c.toList.drop (i*5)).take ((n-i)*5))).toList.take (i*5)++vs)++(cB c ((i+1)*5) ((c.toList.drop (i*5)).take ((n-i)*5))).toList.drop (i*5+vs.length)).take ((n+1)*5)=_
    have e2:(c.toList.take ((i+1)*5)).length=(i+1)*5:=by rw[List.length_take];omega
    have e3:(cB c ((i+1)*5) ((c.toList.drop (i*5)).take ((n-i)*5))).toList.take (i*5)=c.toList.take (i*5):=by
     rw[e1,List.append_assoc,List.take_append_of_le_length (by omega),List.take_take,Nat.min_eq_left (by omega)]
    have e4:(cB c ((i+1)*5) ((c.toList.drop (i*5)).take ((n-i)*5))).toList.drop (i*5+vs.length)=(c.toList.drop (i*5)).take ((n-i)*5)++c.toList.drop ((i+1)*5+((c.toList.drop (i*5)).take ((n-i)*5)).length):=by
     rw[e1,List.append_assoc,show i*5+vs.length=(i+1)*5 by omega]
     exact List.drop_left' e2
    rw[e3,e4,List.append_assoc,← List.append_assoc vs,← List.append_assoc]
    exact List.take_left' (by rw[List.length_append,List.length_append,List.length_take,hnl,hvl];omega)
   ·refine(NF b n cap i c T w hb hc hone hn (by omega) hbig hlt vb 0 vc cv Tv hv vs hvs' hvl h1v).mono fun e w' ⟨G,he,h1,h2,row,h3,h4,h5,h6,h7,h8⟩=>?_
    refine⟨w.heap.size,G,row,151,he,h1,h2,h3,h4,by rw[h5,Array.getElem?_push,if_pos rfl],.inr rfl,fun x hx _=>by rw[h5,Array.getElem?_push,if_neg (by omega)],by rw[h5,Array.size_push];omega,h6,h7,h8⟩
end Go.Proofs.YthgknhkeifcflaaGreatDoor.E
