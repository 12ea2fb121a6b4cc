import Derived.RangeFuncLeaves
import Derived.RangeFuncSeq
import Derived.RangeFuncBox
import Derived.LoopNIn
import Derived.Test.YtpfdckeipckldaaGreatProg
import Derived.KernelRfl
import Derived.Test.YtpfdckeipckldaaGreatA
set_option maxHeartbeats 8000000
set_option linter.all false
set_option linter.unusedVariables false
set_option linter.unusedSimpArgs false
set_option linter.unnecessarySimpa false
namespace Go.Ex
open Go Go.RowKit
section
variable {P:Program} {E:Env} {G:List (Array Value)} {n:Nat} {w0:Base} {ok:Nat→Prop} {a:Act} {w:World} {s:St} {β : Nat→Value} {o:Oper}
def okEnd (A:Nat→Prop) (lo hi:Nat) (Hx:Heap) (β : Nat→Value) (k:Nat):Prop :=
 A k∨(lo≤k∧k < hi∧∀id,id < Hx.length→(β id).ownBlock≠some k)
structure Res (A:Nat→Prop) (w w':World) (p:PV) (Hx:Heap) (β : Nat→Value) (v:Value):Prop where
 below:Below w.heap.size w w'
 st:∀(id:Nat) b,Hx[id]? = some b→b.st=0∧b.box=false∧b.arr=false
 own:∀(id:Nat) b,Hx[id]? = some b→∃xs,w'.ownsRow w.heap.size b.ty b.es (β id) b.n xs∧(∀i,i < b.n→(b.get i).length=b.es∧∀p∈b.get i,cellOk p=true) ∧
  ∀(i f:Nat) p,i < b.n→(b.get i)[f]? = some p→∃u,xs[i*b.es+f]? = some u∧R0 (okEnd A w.heap.size w'.heap.size Hx β) w' p u
 inj:∀id id',id≠id'→id < Hx.length→id' < Hx.length→(β id).ownBlock=none∨(β id).ownBlock≠(β id').ownBlock
 val:R (okEnd A w.heap.size w'.heap.size Hx β) w' Hx β 1 p v
def Answers (P:Program) (f:FuncId) (args:List PV) (r:Ans):Prop:=(∀vs w,(callFunc f vs).run P w=.ok (.enter f vs) w)∧(Met r.pre →
 ∀(A:Nat→Prop) (w:World) (vs:Array Value),(∀k,A k→k < w.heap.size)→args.length=vs.size→(∀(i:Nat) p v,args[i]? = some p→vs[i]? = some v→R0 A w p v) →
  Calls P f vs w fun e w'=>∃v β,e=.returned v∧Res A w w' r.val r.out β v)
structure ZOk (Z:List (Nat→PV)→Base→Prop):Prop where
 weak:∀sv sv' b,all2 (fun(f f':Nat→PV)=>∀t v,f' t=.val v→f t=.val v) sv sv'→Z sv b→Z sv' b
 up:∀sv (b b':Base),b'.toWorld=b.toWorld→b'.old=b.old→(∀k o,b.pin k=some o→b'.pin k=some o)→Z sv b→Z sv b'
 old:∀sv b,Z sv b→∀k o,b.old k=some o→b.pin k=some o
def Sim (st:Bool) (Z:List (Nat→PV)→Base→Prop) (G:List (Array Value)) (n:Nat) (A:Nat→Prop) (a:Act) (w:World) (s:St):Prop :=
 ∃(b:Base) (ok:Nat→Prop) (β : Nat→Value),Z s.sv b∧Rel G n b ok a w s β∧(∀k,A k→ok k)∧(∀k,ok k→A k∨(st=false∧b.heap.size≤k))∧(st=true→a.defers=[])
def SimV (st:Bool) (Z:List (Nat→PV)→Base→Prop) (G:List (Array Value)) (n:Nat) (A:Nat→Prop) (a:Act) (w:World) (s:St) (ps:List PV) (vs:List Value):Prop :=
 ∃(b:Base) (ok:Nat→Prop) (β : Nat→Value),Z s.sv b∧Rel G n b ok a w s β∧(∀k,A k→ok k)∧(∀k,ok k→A k∨(st=false∧b.heap.size≤k))∧(st=true→a.defers=[])∧ps.length=vs.length∧∀(i:Nat) p v,ps[i]? = some p→vs[i]? = some v→R ok w s.H β s.nx p v
def TransOk (P:Program) (f:FuncId) (T:Trans):Prop:=(∀vs w,(callFunc f vs).run P w=.ok (.enter f vs) w) ∧
 ∀(Z:List (Nat→PV)→Base→Prop) (G:List (Array Value)) (n:Nat) (A:Nat→Prop) (a:Act) (w:World) (s:St) (args:List PV) (vs:Array Value) (K:PV→St→Prop),ZOk Z→SimV false Z G n A a w s args vs.toList→T args s K →
  Calls P f vs w fun e w'=>∃v p s',e=.returned v∧K p s'∧SimV false Z G n A a w' s' [p] [v]
def KeepA (A:Nat→Prop) (w w':World):Prop:=∀k,A k→w'.heap[k]? = w.heap[k]?
def SeqOk (P:Program) (f:FuncId) (caps:List PV) (q:SeqA):Prop:=(∀vs w,(callFunc f vs).run P w=.ok (.enter f vs) w)∧(Met q.pre →
 ∀(A:Nat→Prop) (w:World) (lb:Array Value) (l:Nat) (J:Nat→World→Prop) (Jx:World→Prop),(∀k,A k→k < w.heap.size)→caps.length=lb.size→(∀(i:Nat) p v,caps[i]? = some p→lb[i]? = some v→R0 A w p v) →
  (∀i W W',J i W→Below W.heap.size W W'→J i W')→(∀W W',Jx W→Below W.heap.size W W'→Jx W') →
  (∀i W (vs:Array Value),i < q.n→J i W→(q.xs i).length=vs.size→(∀(j:Nat) p v,(q.xs i)[j]? = some p→vs[j]? = some v→R0 A W p v) →
   YieldAt Fence.wide 0 P l vs W fun e W'=>((e=.returned (.bool true)∧J (i+1) W')∨(e=.returned (.bool false)∧Jx W'))∧KeepA A W W') →
  J 0 w→CallsIn Fence.wide 0 P f (#[.func (.yield l) #[] #[]]++lb) w fun e w'=>(∃v,e=.returned v)∧(J q.n w'∨Jx w'))
def EnvOk (P:Program) (E:Env):Prop:=(∀f args r,E.call f args=some r→Answers P f args r)∧(∀f T,E.inl f=some T→TransOk P f T)∧∀f caps q,E.seq f caps=some q→SeqOk P f caps q
theorem Res.heap {A:Nat→Prop} {w':World} {p:PV} {Hx:Heap} {v:Value} (h:Res A w w' p Hx β v) (hA:∀k,A k→k < w.heap.size):HRel w.heap.size (okEnd A w.heap.size w'.heap.size Hx β) w' Hx β 1:=by
 refine⟨fun id b e=>by rw [(h.st id b e).1];omega,fun id b e=>?_,h.inj,fun id k h1 hk=>?_⟩
 ·obtain⟨xs,h1,h2,h3⟩:=h.own id b e
  obtain⟨_,q1,q2⟩:=h.st id b e
  exact⟨xs,h1,h2,fun hx=>(by rw [q1] at hx;cases hx),fun hx=>(by rw [q2] at hx;cases hx),fun i f p hx hp=>by obtain⟨u,e1,e2⟩:=h3 i f p hx hp;exact⟨u,e1,.deep _ _ e2,fun _=>e2⟩⟩
 ·obtain⟨xs,h2,_,_⟩:=h.own id Hx[id] (by simp [h1])
  rintro (hA' | ⟨_,_,hn⟩)
  ·have:=hA k hA'
   have:=(h2.lt k hk).1
   omega
  ·exact hn id h1 hk
theorem reH_get (nx:Nat):∀(H:Heap) (i:Nat),(reH nx H)[i]? = (H[i]?).map fun b=>⟨b.ty,b.es,nx,b.box,false,b.n,b.get⟩
 |[],i=>by simp [reH]
 |b::H,0=>by simp [reH]
 |b::H,i+1=>by simp [reH,reH_get nx H i]
theorem reH_length (nx:Nat):∀(H:Heap),(reH nx H).length=H.length
 |[]=>rfl
 |b::H=>by simp [reH,reH_length nx H]
theorem Rel.import (h:Rel G n w0 ok a w s β) {A:Nat→Prop} {w':World} {p:PV} {Hx:Heap} {βx:Nat→Value} {v:Value} (r:Res A w w' p Hx βx v) (hA:∀k,A k→ok k) :
  ∃β',Rel G n w0 (fun k=>ok k∨(w.heap.size≤k∧k < w'.heap.size∧∀id,id < Hx.length→(βx id).ownBlock≠some k)) a w' { s with H:=s.H++reH s.nx Hx,nx:=s.nx+1 } β' ∧
   R (fun k=>ok k∨(w.heap.size≤k∧k < w'.heap.size∧∀id,id < Hx.length→(βx id).ownBlock≠some k)) w' (s.H++reH s.nx Hx) β' (s.nx+1) (imp s.H.length s.nx p) v:=by
 generalize hF:(fun k=>w.heap.size≤k∧k < w'.heap.size∧∀id,id < Hx.length→(βx id).ownBlock≠some k)=F
 have hF1:∀k,F k→w.heap.size≤k∧k < w'.heap.size:=fun k hk=>by rw [←hF] at hk;exact⟨hk.1,hk.2.1⟩
 have hF2:∀k,F k↔(w.heap.size≤k∧k < w'.heap.size∧∀id,id < Hx.length→(βx id).ownBlock≠some k):=fun k=>by rw [←hF]
 have hok2:(fun k=>ok k∨(w.heap.size≤k∧k < w'.heap.size∧∀id,id < Hx.length→(βx id).ownBlock≠some k))=fun k=>ok k∨F k:=by funext k;rw [hF2]
 rw [hok2]
 have hE:∀k,okEnd A w.heap.size w'.heap.size Hx βx k→ok k∨F k:=fun k hk=>hk.imp (hA k) fun hk=>by rw [hF2];exact hk
 obtain⟨h1,_⟩:=h.widen r.below F hF1
 let β':Nat→Value:=fun id=>if id < s.H.length then β id else βx (id - s.H.length)
 let H':Heap:=s.H++reH s.nx Hx
 have hold:∀j,j < s.H.length→∀k,(β j).ownBlock=some k→w0.heap.size≤k∧k < w.heap.size:=by
  intro j hj k hk
  obtain⟨ys,e1,_⟩:=h.heap.own j s.H[j] (by simp [hj])
  exact e1.lt k hk
 have hnew:∀j,j < Hx.length→∀k,(βx j).ownBlock=some k→w.heap.size≤k∧k < w'.heap.size:=by
  intro j hj k hk
  obtain⟨ys,e1,_,_⟩:=r.own j Hx[j] (by simp [hj])
  exact e1.lt k hk
 have hget:∀(id:Nat) b,H'[id]? = some b→(id < s.H.length∧s.H[id]? = some b∧β' id = β id)∨(s.H.length≤id∧∃b',Hx[id - s.H.length]? = some b'∧b=⟨b'.ty,b'.es,s.nx,b'.box,false,b'.n,b'.get⟩∧β' id = βx (id - s.H.length)):=by
  intro id b e
  rcases Nat.lt_or_ge id s.H.length with hid|hid
  ·rw [List.getElem?_append_left hid] at e
   exact .inl ⟨hid,e,by simp [β',hid]⟩
  ·rw [List.getElem?_append_right hid,reH_get] at e
   simp only [Option.map_eq_some_iff] at e
   obtain⟨b',e1,e2⟩:=e
   exact .inr ⟨hid,b',e1,e2.symm,by simp [β'];omega⟩
 have hL:Later (fun k=>ok k∨F k) (fun k=>ok k∨F k) w' w' s.H H' β β' s.nx (s.nx+1):=by
  refine⟨by omega,fun _ h=>h,fun _ _ _ h=>h,fun id st b' hst e=>?_⟩
  obtain⟨e1,e2⟩:=blk_some e
  rcases hget id b' e1 with ⟨_,q1,q2⟩|⟨_,b2,_,q2,_⟩
  ·exact⟨b',by simp [blk,q1,e2],rfl,rfl,q2⟩
  ·subst q2;simp only at e2;omega
 have lift0:∀{p v},R0 (okEnd A w.heap.size w'.heap.size Hx βx) w' p v→R0 (fun k=>ok k∨F k) w' p v:=fun h=>h.later hE (fun _ _ _ h=>h)
 have leaf:∀p v,R (okEnd A w.heap.size w'.heap.size Hx βx) w' Hx βx 1 p v→R (fun k=>ok k∨F k) w' H' β' (s.nx+1) (imp1 s.H.length s.nx p) v:=by
  intro p v hp
  cases p with
  |val u=>exact .deep _ _ (by cases hp.val_eq;exact .val _)
  |rs=>exact .deep _ _ (lift0 hp.rs_inv)
  |rp=>exact .deep _ _ (lift0 hp.rp_inv)
  |sl id st lo len =>
   simp only [imp1]
   have hst:=hp.st_lt
   obtain rfl:st=0:=by omega
   have h0:v.oneCell'=true:=hp.one rfl
   refine .sl _ _ _ _ _ h0 (by omega) fun b hb=>?_
   obtain⟨e1,e2⟩:=blk_some hb
   rcases hget _ b e1 with ⟨q0,_,_⟩|⟨_,b2,q1,q2,q3⟩
   ·omega
   ·rw [Nat.add_sub_cancel] at q1 q3
    subst q2
    have:=hp.sl_inv (b:=b2) (by simp [blk,q1,(r.st id b2 q1).1])
    rw [q3]
    exact this
  |_=>exact .junk _
 refine⟨β',⟨fun t ht=>(h1.fr t ht).later hL,h1.size,h1.defers,⟨fun id b e=>?_,fun id b e=>?_,fun i j hne l1 l2=>?_,fun id k l1 hk=>?_⟩,h1.ext,h1.oklt,all2_mono (fun f tm hf t ht=>(hf t ht).later hL) h1.sv,h1.pins⟩,?_⟩
 ·rcases hget id b e with ⟨_,q1,_⟩|⟨_,b2,_,q2,_⟩
  ·have:=h.heap.stl id b q1;simp only;omega
  ·subst q2;exact Nat.lt_succ_self _
 ·rcases hget id b e with ⟨_,q1,q2⟩|⟨_,b2,q1,q2,q3⟩
  ·obtain⟨xs,k1,k2,kb,kb2,k3⟩:=h1.heap.own id b q1
   refine⟨xs,by rw [q2];exact k1,k2,kb,fun hx=>by rw [q2];exact kb2 hx,fun i f p hx hp=>?_⟩
   obtain⟨u,e1,e2,e3⟩:=k3 i f p hx hp
   exact⟨u,e1,e2.later hL,fun hx=>(e3 hx).later hL.oks hL.cell⟩
  ·obtain⟨xs,k1,k2,k3⟩:=r.own _ b2 q1
   have hbx:=(r.st _ b2 q1).2.1
   subst q2
   refine⟨xs,?_,k2,fun(hx:b2.box=true)=>absurd (hbx.symm.trans hx) (by decide),nofun,fun i f p hx hp=>?_⟩
   ·rw [q3]
    exact⟨k1.1,k1.2.imp _root_.id fun⟨g,cap,cur,e1,e2,e3⟩=>⟨g,cap,cur,e1,Nat.le_trans h.ext.size e2,e3⟩⟩
   ·obtain⟨u,e1,e2⟩:=k3 i f p hx hp
    exact⟨u,e1,.deep _ _ (lift0 e2),fun _=>lift0 e2⟩
 ·simp only [List.length_append,reH_length] at l1 l2
  simp only [β']
  by_cases hi:i < s.H.length
  ·by_cases hj:j < s.H.length
   ·simp only [hi,hj,if_true];exact h.heap.inj i j hne hi hj
   ·simp only [hi,hj,if_true,if_false]
    cases hk:(β i).ownBlock with
    |none=>exact .inl rfl
    |some k =>
     right
     intro hq
     have:=(hold i hi k hk).2
     have:=(hnew _ (by omega) k hq.symm).1
     omega
  ·by_cases hj:j < s.H.length
   ·simp only [hi,hj,if_true,if_false]
    cases hk:(βx (i - s.H.length)).ownBlock with
    |none=>exact .inl rfl
    |some k =>
     right
     intro hq
     have:=(hold j hj k hq.symm).2
     have:=(hnew _ (by omega) k hk).1
     omega
   ·simp only [hi,hj,if_false]
    exact r.inj _ _ (by omega) (by omega) (by omega)
 ·simp only [List.length_append,reH_length] at l1
  simp only [β'] at hk
  by_cases hi:id < s.H.length
  ·simp only [hi,if_true] at hk
   exact h1.heap.notok id k hi hk
  ·simp only [hi,if_false] at hk
   have hb:=hnew _ (by omega) k hk
   rintro (hok|hf)
   ·have:=h.oklt k hok;omega
   ·rw [hF2] at hf
    exact hf.2.2 _ (by omega) hk
 ·have hv:=r.val
  cases p with
  |tup xs =>
   obtain⟨vs,rfl,l,hh⟩:=hv.tup_inv
   refine .tup _ _ (by simpa using l) fun i p u hp hu=>?_
   simp only [List.getElem?_map,Option.map_eq_some_iff] at hp
   obtain⟨x,e1,rfl⟩:=hp
   exact leaf x u (hh i x u e1 hu)
  |agg xs =>
   obtain⟨vs,rfl,l,hh⟩:=hv.agg_inv
   refine .agg _ _ (by simpa using l) fun i p u hp hu=>?_
   simp only [List.getElem?_map,Option.map_eq_some_iff] at hp
   obtain⟨x,e1,rfl⟩:=hp
   exact leaf x u (hh i x u e1 hu)
  |val u=>exact leaf _ _ hv
  |rs=>exact leaf _ _ hv
  |rp=>exact leaf _ _ hv
  |sl=>exact leaf _ _ hv
  |ptr=>exact leaf _ _ hv
  |fn=>exact leaf _ _ hv
  |junk=>exact leaf _ _ hv
theorem callRes_case {H:Heap} {p:PV} {pre:Option Prop} {s s':St} {r:Option Prop×St×PV} (e:(match deep H 4 p with
   |none=>none
   |some (.val v)=>some (pre,s,.val v)
   |some q=>some (pre,s',q))=some r):∃q,deep H 4 p=some q∧(match q with
   |.val v=>(pre,s,.val v)
   |q=>(pre,s',q))=r:=by
 cases hq:deep H 4 p with
 |none=>rw [hq] at e;cases e
 |some q =>
  refine⟨q,rfl,?_⟩
  rw [hq] at e
  cases q<;>simpa using e
theorem call_sound (hE:EnvOk P E) (h:Rel G n w0 ok a w s β) {f:FuncId} {args:List PV} {vs:Array Value} (hl:args.length=vs.size)
  (hR:∀(i:Nat) p v,args[i]? = some p→vs[i]? = some v→R ok w s.H β s.nx p v) {cd:Option Prop} {r:St×PV} (hmet:Met cd) (e:callRes E s f args=some (cd,r)) :
  (∀us W,(callFunc f us).run P W=.ok (.enter f us) W) ∧
  Calls P f vs w fun e w'=>∃v,e=.returned v∧Below w.heap.size w w'∧(∀u,r.2=.val u→E.own f=false→v=u)∧∃ok' β',Rel G n w0 ok' a w' r.1 β'∧R ok' w' r.1.H β' r.1.nx r.2 v∧(∀k,ok k→ok' k)∧∀k,ok' k→ok k∨w0.heap.size≤k:=by
 simp only [callRes,Option.bind_eq_some_iff] at e
 obtain⟨ds,hds,⟨pre,p,Hx⟩,hcall,e⟩:=e
 obtain⟨hent,hc⟩:=hE.1 f ds _ hcall
 refine⟨hent,?_⟩
 generalize hids:args.flatMap (reach s.H 4)=ids at e
 let A:Nat→Prop:=fun k=>ok k∨∃id∈ids,id < s.H.length∧(β id).ownBlock=some k
 obtain⟨m1,m2⟩:=mapO_some hds
 have hA1:∀k,ok k→A k:=fun k hk=>.inl hk
 obtain⟨β1,hk1,hk2⟩:=h.kill ids
 have hAlt:∀k,A k→k < w.heap.size:=hk1.oklt
 have hbase:∀k,A k→ok k∨w0.heap.size≤k:=by
  rintro k (hk|⟨id,_,hlt,hk⟩)
  ·exact .inl hk
  ·obtain⟨xs,h1,_⟩:=h.heap.own id s.H[id] (by simp [hlt])
   exact .inr (h1.lt k hk).1
 have hext:=h.ext.size
 have ok0:∀k,(∃id,id < s.H.length∧(β id).ownBlock=some k)→k < w.heap.size:=by
  rintro k ⟨id,hlt,hk⟩
  obtain⟨xs,h1,_⟩:=h.heap.own id s.H[id] (by simp [hlt])
  exact(h1.lt k hk).2
 have harg:∀(i:Nat) p v,ds[i]? = some p→vs[i]? = some v→R0 A w p v:=by
  intro i q v hq hv
  obtain⟨x,e1,e2⟩:=m2 i q hq
  exact deep_sound (A:=A) h.heap hA1 4 x q v (hR i x v e1 hv) e2 fun id hid hlt k hk=>.inr ⟨id,by rw [←hids];exact List.mem_flatMap.2 ⟨x,List.mem_of_getElem? e1,hid⟩,hlt,hk⟩
 have hpre:Met pre:=by
  split at e
  ·simp only [Option.some.injEq,Prod.mk.injEq] at e;rw [e.1];exact hmet
  ·obtain⟨q,_,e⟩:=callRes_case e
   split at e<;>(simp only [Prod.mk.injEq] at e;rw [e.1];exact hmet)
 refine(hc hpre A w vs hAlt (by omega) harg).mono ?_
 rintro e' w' ⟨v,βx,rfl,hres⟩
 refine⟨v,rfl,hres.below,?_⟩
 split at e
 ·rename_i hown
  simp only [Option.some.injEq,Prod.mk.injEq] at e
  obtain⟨_,rfl⟩:=e
  refine⟨fun u _ ho=>(by rw [hown] at ho;cases ho),?_⟩
  obtain⟨β2,h1,h2⟩:=hk1.import hres (fun k hk=>hk)
  refine⟨_,β2,h1,h2,fun k hk=>.inl (.inl hk),?_⟩
  rintro k (hk|hk)
  ·exact hbase k hk
  ·exact .inr (by omega)
 ·obtain⟨q,hq,e⟩:=callRes_case e
  have hq2:R0 (fun k=>A k∨(w.heap.size≤k∧k < w'.heap.size)) w' q v:=by
   refine deep_sound (hres.heap hAlt) (fun k hk=>?_) 4 p q v hres.val hq fun id _ hlt k hk=>?_
   ·rcases hk with hk|⟨k1,k2,_⟩
    ·exact .inl hk
    ·exact .inr ⟨k1,k2⟩
   ·obtain⟨xs,h1,_,_⟩:=hres.own id Hx[id] (by simp [hlt])
    exact .inr (h1.lt k hk)
  split at e
  ·rename_i u
   simp only [Prod.mk.injEq] at e
   obtain⟨_,rfl⟩:=e
   refine⟨fun u' e _=>by cases e;exact hq2.val_eq,ok,β,h.below hres.below,?_,fun _ hk=>hk,fun k hk=>.inl hk⟩
   rw [hq2.val_eq]
   exact .val _
  ·rename_i hnv
   simp only [Prod.mk.injEq] at e
   obtain⟨_,rfl⟩:=e
   refine⟨fun u' e _=>absurd e (hnv u'),?_⟩
   obtain⟨h1,h2⟩:=hk1.widen hres.below (fun k=>w.heap.size≤k∧k < w'.heap.size) (fun k hk=>hk)
   refine⟨_,β1,h1,.deep _ _ hq2,fun k hk=>.inl (.inl hk),?_⟩
   rintro k (hk|hk)
   ·exact hbase k hk
   ·exact .inr (by omega)
end
end Go.Ex
namespace Go.Ex
open Go Go.RowKit
structure Opt extends Ord where
 join:Code→Bool:=fun _=>false
 round:Bool:=false
def Env.plain (E:Env):Env:=match E with
 |⟨call,own,_,seq,_,strict⟩=>⟨call,own,fun _=>none,seq,none,strict⟩
def dropS (s:St):St:=match s with
 |⟨fr,_,nx,sv⟩=>⟨fr,[],nx+1,sv⟩
def cutB (st:Bool) (s:St):St:=match st with
 |true=>dropS s
 |false=>s
def Env.cut (E:Env) (s:St):St:=cutB E.strict s
def updL:List Tmp→List PV→(Nat→PV)→Nat→PV
 |p::ps,x::xs,f=>updL ps xs (upd f p x)
 |_,_,f=>f
def enterS (ps:List Tmp) (xs:List PV) (s:St):St:=match s with
 |⟨fr,H,nx,sv⟩=>⟨updL ps xs fr,H,nx,fr::sv⟩
def Opt.inRound (D:Opt):Opt:=match D with
 |⟨o,j,_⟩=>⟨o,j,true⟩
def Env.noYield (E:Env):Env:=match E with
 |⟨call,own,inl,seq,_,strict⟩=>⟨call,own,inl,seq,none,strict⟩
abbrev VcT:=Env→Opt→St→(Exit→St→Prop)→Prop
def vcRegion (P:Program) (id:Nat) (ops:Array Oper) (draw:Bool):VcT:=fun E D s K=>match draw,D.all id with
 |true,some l=>vcTree P E ops.toList l [] s (K .normal)
 |true,none=>(match D.perm id with
  |some l=>vcTree P E.plain ops.toList l [] s fun s=>vcOps P E false ops.toList (ops.toList.drop l.len) [] s (K .normal)
  |none=>match D.round,E.yl with
   |false,none=>vcOps P E (!D.draws id) ops.toList ops.toList [] s (K .normal)
   |_,_=>False)
 |false,_=>vcOps P E false ops.toList ops.toList [] s (K .normal)
def vcSeq2 (a:Code) (va vb:VcT):VcT:=fun E D s K=>match D.join a with
 |true=>∃(α : Type) (I : α→Prop) (S : α→St),va E D s (fun e s=>match e with
   |.normal=>∃(y : α) (σ : Ren),I y∧Weak σ (E.cut s) (S y)
   |e=>K e s)∧∀y,I y→vb E D (S y) K
 |false=>va E D s fun e s=>match e with
  |.normal=>vb E D s K
  |e=>K e s
def vcCond (c:Operand) (vx vy:VcT):VcT:=fun E D s K=>match s.ev c with
 |.val (.bool t)=>(t=true→vx E D s K)∧(t=false→vy E D s K)
 |_=>False
def vcBlock (id:Nat) (vb:VcT):VcT:=fun E D s K=>vb E D s fun e s=>match e with
 |.exit j=>bif j==id then K .normal s else K (.exit j) s
 |e=>K e s
def vcLoop (vb:VcT):VcT:=fun E D s K=>∃(α : Type) (I : α→Prop) (S : α→St) (μ : α→Nat),(∃(x : α) (σ : Ren),I x∧Weak σ (E.cut s) (S x))∧∀x,I x→vb E D (S x) fun e s2=>match e with
 |.normal=>∃(y : α) (σ : Ren),I y∧μ y < μ x∧Weak σ (E.cut s2) (S y)
 |e=>K e s2
def vcRange (g:Operand) (ps:Array Tmp) (vx vb:VcT):VcT:=fun E D s K=>match D.round,E.strict,calleeOf s g with
 |false,false,some (f,[],caps)=>match mapO (deep s.H 4) caps,caps.flatMap (reach s.H 4) with
  |some ds,[]=>match E.seq f ds with
   |some q=>need q.pre (∃(α : Type) (I:Nat→α→Prop) (S : α→St),(∃(y : α) (σ : Ren),I 0 y∧Weak σ s (S y)) ∧
    (∀i y,i < q.n→I i y→(q.xs i).length=ps.size∧vx E.noYield D.inRound (enterS ps.toList (q.xs i) (S y)) fun e s1=>match e with
     |.normal=>vb E.noYield D.inRound s1 fun e s2=>match s2 with
      |⟨_,H,nx,fr::sv⟩=>(match e with
       |.normal=>∃(z : α) (σ : Ren),I (i+1) z∧Weak σ ⟨fr,H,nx,sv⟩ (S z)
       |.ret=>K .ret ⟨fr,H,nx,sv⟩
       |.exit j=>K (.exit j) ⟨fr,H,nx,sv⟩
       |_=>False)
      |_=>False
     |_=>False) ∧
    ∀y,I q.n y→K .normal (S y))
   |none=>False
  |_,_=>False
 |_,_,_=>False
noncomputable def vcC (P:Program):Code→VcT :=
 Code.rec (motive:=fun _=>VcT)
  (fun _ _ s K=>K .normal s)
  (fun id ops draw=>vcRegion P id ops draw)
  (fun a _ va vb=>vcSeq2 a va vb)
  (fun c _ _ vx vy=>vcCond c vx vy)
  (fun id _ vb=>vcBlock id vb)
  (fun _ vb=>vcLoop vb)
  (fun g ps _ _ vx vb=>vcRange g ps vx vb)
  (fun id _ _ s K=>K (.exit id) s)
  (fun _ _ _ _ _ _=>False)
  (fun _ _ _ _ _=>False)
  (fun _ _ _ _ _=>False)
  (fun _ _ s K=>K .ret s)
  (fun _ _ _ _ _=>False)
noncomputable def vc (P:Program) (E:Env) (D:Opt) (c:Code) (s:St) (K:Exit→St→Prop):Prop:=vcC P c E D s K
section
variable {P:Program} {E:Env} {D:Opt} {G:List (Array Value)} {n:Nat} {w0:Base} {ok A:Nat→Prop} {a:Act} {w:World} {s:St} {β : Nat→Value} {o:Oper}
theorem Weak.sv {σ : Ren} {s s':St} (hw:Weak σ s s'):all2 (fun(f f':Nat→PV)=>∀t v,f' t=.val v→f t=.val v) s.sv s'.sv :=
 all2_mono (fun f f' h t v e=>by have:=h t;rw [e] at this;exact this) hw.2.2.2
theorem Rel.drop (h:Rel G n w0 ok a w s β):Rel G n w0 ok a w (dropS s) β:=by
 obtain⟨fr,H,nx,sv⟩:=s
 have hL:Later ok ok w w H [] β β nx (nx+1):=⟨Nat.le_succ _,fun _ h=>h,fun _ _ _ h=>h,fun id st b' _ e=>by simp [blk] at e⟩
 exact⟨fun t ht=>(h.fr t ht).later hL,h.size,h.defers,⟨by simp [dropS],by simp [dropS],by simp [dropS],by simp [dropS]⟩,h.ext,h.oklt,all2_mono (fun f tm hf t ht=>(hf t ht).later hL) h.sv,h.pins⟩
theorem Sim.weak {st:Bool} {Z:List (Nat→PV)→Base→Prop} (hZ:ZOk Z) (h:Sim st Z G n A a w s) {σ : Ren} {s':St} (hw:Weak σ (cutB st s) s'):Sim st Z G n A a w s':=by
 obtain⟨b,ok,β,hz,h,h1,h2,h3⟩:=h
 cases st with
 |false=>exact⟨b,_,_,hZ.weak _ _ _ hw.sv hz,h.weak hw,fun k hk=>.inl (h1 k hk),fun k hk=>(okW_base h k hk).elim (h2 k) fun h=>.inr ⟨rfl,h⟩,h3⟩
 |true =>
  have hd:=h.drop
  refine⟨b,_,_,hZ.weak _ _ _ hw.sv (by obtain⟨_,_,_,_⟩:=s;exact hz),hd.weak hw,fun k hk=>.inl (h1 k hk),?_,h3⟩
  rintro k (hk|⟨id,hid,_⟩)
  ·exact h2 k hk
  ·obtain⟨_,_,_,_⟩:=s;simp [dropS] at hid
theorem operOk_spec (h:operOk n o=true):(∀x∈o.op.operands,opdOk n x=true)∧(∀d,o.dst=some d→d < n)∧∀cs b,o.op≠.select cs b:=by
 simp only [operOk,Bool.and_eq_true] at h
 obtain⟨⟨h1,h2⟩,h3⟩:=h
 refine⟨fun x hx=>?_,fun d hd=>?_,fun cs b he=>?_⟩
 ·have:=Array.all_eq_true'.1 h1 x hx
  cases x<;>simp_all [opdOk]
 ·rw [hd] at h2;simpa using h2
 ·rw [he] at h3;simp at h3
theorem callee_sound (h:Rel G n w0 ok a w s β) {c:Call} (ho:∀x∈(Op.call c).operands,opdOk n x=true) {dst:Option Tmp} {ty:TypeId} {pos:String} {after:Array Edge} {guard:Option (Nat×Bool)} {f:FuncId} {args:List PV} (e:calleeArgs s c=some (f,args))
  (hent:∀us W,(callFunc f us).run P W=.ok (.enter f us) W) :
  ∃vs,(∀W,(execOp a.eval ⟨dst,.call c,ty,pos,after,guard⟩).run P W=.ok (.enter f vs) W)∧args.length=vs.size∧∀(i:Nat) p v,args[i]? = some p→vs[i]? = some v→R ok w s.H β s.nx p v:=by
 simp only [calleeArgs] at e
 split at e
 ·rename_i x hcal
  simp only [Option.bind_eq_some_iff,Option.some.injEq,Prod.mk.injEq] at e
  obtain⟨⟨f',pre,post⟩,hf,rfl,rfl⟩:=e
  have hx:=h.ev (ho x (by simp [Op.operands,Call.operands,hcal]))
  have hfun:∃us vs,a.eval x=.func (.func f') us vs∧pre.length=us.size∧post.length=vs.size∧(∀(i:Nat) p u,pre[i]? = some p→us[i]? = some u→R ok w s.H β s.nx p u)∧∀(i:Nat) p u,post[i]? = some p→vs[i]? = some u→R ok w s.H β s.nx p u:=by
   unfold calleeOf at hf
   split at hf
   ·rename_i k first caps hp
    simp only [Option.some.injEq,Prod.mk.injEq] at hf
    obtain⟨rfl,rfl,rfl⟩:=hf
    rw [hp] at hx
    refine⟨first,caps,hx.val_eq,by simp,by simp,fun i p u hp hu=>?_,fun i p u hp hu=>?_⟩
    ·simp only [List.getElem?_map,Array.getElem?_toList,hu,Option.map_some,Option.some.injEq] at hp
     rw [←hp];exact .val _
    ·simp only [List.getElem?_map,Array.getElem?_toList,hu,Option.map_some,Option.some.injEq] at hp
     rw [←hp];exact .val _
   ·rename_i k first caps hp
    simp only [Option.some.injEq,Prod.mk.injEq] at hf
    obtain⟨rfl,rfl,rfl⟩:=hf
    rw [hp] at hx
    obtain⟨us,vs,e1,l1,l2,h1,h2⟩:=hx.fn_inv
    exact⟨us,vs,e1,l1,l2,h1,h2⟩
   ·simp at hf
  obtain⟨us,vs,hv,l1,l2,h1,h2⟩:=hfun
  have hargs:∀(i:Nat) p v,(c.args.toList.map s.ev)[i]? = some p→(c.args.map a.eval)[i]? = some v→R ok w s.H β s.nx p v:=by
   intro i p v hp hu
   simp only [List.getElem?_map,Array.getElem?_toList,Array.getElem?_map,Option.map_eq_some_iff] at hp hu
   obtain⟨y,hy,rfl⟩:=hp
   obtain⟨z,hz,rfl⟩:=hu
   rw [hy] at hz
   cases hz
   exact h.ev (ho y (by simp [Op.operands,Call.operands,Array.mem_of_getElem? hy]))
  refine⟨us++c.args.map a.eval++vs,fun W=>by simp [execOp,resolve,hcal,hv,Deferred.ofValue,invoke,hent],by simp;omega,fun i p v hp hu=>?_⟩
  simp only at hp
  rw [List.getElem?_append] at hp
  rw [Array.getElem?_append] at hu
  simp only [List.length_append,List.length_map,Array.length_toList,Array.size_append,Array.size_map,l1] at hp hu
  split at hp
  ·rename_i hi
   rw [if_pos hi] at hu
   rw [List.getElem?_append] at hp
   rw [Array.getElem?_append] at hu
   rw [l1] at hp
   split at hp
   ·rename_i hi2
    rw [if_pos hi2] at hu
    exact h1 i p v hp hu
   ·rename_i hi2
    rw [if_neg hi2] at hu
    exact hargs _ p v hp hu
  ·rename_i hi
   rw [if_neg hi] at hu
   exact h2 _ p v hp hu
 ·simp at e
def SameFr (d:Option Tmp) (s s':St):Prop:=∀t,d≠some t→s'.fr t=s.fr t
theorem SameFr.put {d:Option Tmp} {s s':St} (h:s'.fr=s.fr) (p:PV):SameFr d s (s'.put d p):=by
 intro t ht
 cases d with
 |none=>exact congrFun h t
 |some k =>
  have:t≠k:=fun e=>ht (by rw [e])
  obtain⟨fr,H,nx,sv⟩:=s'
  simp only [St.put,upd_ne this]
  exact congrFun h t
theorem frz_fr {ps:List PV} {r:St×List PV} (e:frz s ps=some r):r.1.fr=s.fr:=by
 simp only [frz,Option.map_eq_some_iff] at e
 obtain⟨_,_,rfl⟩:=e
 exact kill_fr _ _
theorem mkBlock_fr {t:TypeId} {cs:List PV} {r:St×PV} (e:mkBlock P s t cs=some r):r.1.fr=s.fr:=by
 simp only [mkBlock,Option.bind_eq_some_iff] at e
 obtain⟨_,_,e⟩:=e
 split at e
 ·simp only [Option.some.injEq] at e;subst e;rfl
 ·simp at e
theorem opT_fr {r:Option Prop×St×PV} (e:opT P s o=some r):r.2.1.fr=s.fr:=by
 obtain⟨dst,op,ty,pos,after,guard⟩:=o
 cases op<;>simp only [opT,reduceCtorEq] at e
 case alloc =>
  simp only [Option.bind_eq_some_iff,Option.map_eq_some_iff] at e
  obtain⟨_,_,_,e,rfl⟩:=e
  exact mkBlock_fr e
 case box =>
  simp only [Option.bind_eq_some_iff,Option.map_eq_some_iff] at e
  obtain⟨_,_,_,e,rfl⟩:=e
  exact mkBlock_fr e
 case store =>
  split at e
  ·simp only [Option.bind_eq_some_iff] at e
   obtain⟨_,_,_,_,e⟩:=e
   split at e
   ·simp only [Option.map_eq_some_iff] at e;obtain⟨_,_,rfl⟩:=e;rfl
   ·simp at e
  ·simp at e
 case buildSlice =>
  simp only [Option.bind_eq_some_iff] at e
  obtain⟨_,_,_,_,_,_,_,hz,e⟩:=e
  split at e
  ·simp only [Option.some.injEq] at e;subst e;exact frz_fr hz
  ·simp at e
 case makeSlice =>
  simp only [Option.bind_eq_some_iff] at e
  obtain⟨_,_,_,_,_,_,_,_,_,_,e⟩:=e
  split at e
  ·split at e
   ·simp only [Option.some.injEq] at e;subst e;rfl
   ·simp at e
  ·simp at e
 case call =>
  split at e
  ·split at e
   ·split at e
    ·simp only [appendIn,Option.bind_eq_some_iff] at e
     obtain⟨_,_,_,_,_,_,_,_,e⟩:=e
     split at e
     ·simp only [Option.some.injEq] at e;subst e;rfl
     ·simp at e
    simp only [appendT,Option.bind_eq_some_iff] at e
    obtain⟨_,_,_,_,_,_,_,_,_,_,e⟩:=e
    split at e
    ·split at e
     ·simp only [Option.bind_eq_some_iff] at e
      obtain⟨_,_,e⟩:=e
      split at e
      ·simp only [Option.some.injEq] at e;subst e;rfl
      ·simp at e
     ·simp only [Option.some.injEq] at e;subst e;rfl
     ·simp at e
    ·simp at e
   ·simp at e
  ·unfold clearT at e
   split at e
   ·simp only [Option.bind_eq_some_iff] at e
    obtain⟨_,_,_,_,_,_,e⟩:=e
    split at e
    ·simp only [Option.some.injEq] at e;subst e;rfl
    ·simp at e
   ·simp at e
  ·simp at e
theorem callRes_fr {f:FuncId} {args:List PV} {r:Option Prop×St×PV} (e:callRes E s f args=some r):r.2.1.fr=s.fr:=by
 simp only [callRes,Option.bind_eq_some_iff] at e
 obtain⟨_,_,_,_,e⟩:=e
 split at e
 ·simp only [Option.some.injEq] at e;subst e;exact kill_fr _ _
 ·obtain⟨_,_,e⟩:=callRes_case e
  split at e
  ·subst e;rfl
  ·subst e;exact kill_fr _ _
theorem call_enter (hE:EnvOk P E) {f:FuncId} {args:List PV} {r:Option Prop×St×PV} (e:callRes E s f args=some r):∀us W,(callFunc f us).run P W=.ok (.enter f us) W:=by
 simp only [callRes,Option.bind_eq_some_iff] at e
 obtain⟨ds,_,r',hcall,_⟩:=e
 exact(hE.1 f ds _ hcall).1
def OpDoes (P:Program) (y:Bool) (o:Oper) (a:Act) (w:World) (N:Value→World→Prop):Prop :=
 (∃nv v w',(execOp a.eval o).run P w=.ok nv w'∧(nv=.value v∨(nv=.skip∧v=undef))∧N v w') ∨
 (∃f vs,(execOp a.eval o).run P w=.ok (.enter f vs) w∧Calls P f vs w fun e w'=>∃v,e=.returned v∧N v w') ∨
 (y=true∧∃l fn tmps x b,(execOp a.eval o).run P w=.ok (.round l fn tmps x b) w∧RoundIn Fence.wide 0 P l fn tmps x b w fun e w'=>∃v,e=.returned v∧N v w')
theorem OpDoes.wp {N:Value→World→Prop} {K:Act→World→Prop} {Q:Exit→Act→World→Prop} (h:OpDoes P false o a w N) (hN:∀v w',N v w'→K (a.put o.dst v) w'):o.wp P a w K Q:=by
 unfold Oper.wp
 rcases h with ⟨nv,v,w',hr,hnv,h⟩|⟨f,vs,hr,h⟩|⟨h,_⟩
 ·rw [hr]
  rcases hnv with rfl|⟨rfl,rfl⟩
  ·rw [Oper.upon_value];exact hN _ _ h
  ·rw [Oper.upon_skip];exact hN _ _ h
 ·rw [hr,Oper.upon_enter]
  refine h.mono ?_
  rintro e' w' ⟨v,rfl,h⟩
  exact hN _ _ h
 ·cases h
def FW (rd:Option Nat):Fence:={ Fence.wide with round:=rd }
theorem OpDoes.wpIn {rd:Option Nat} {y:Bool} {N:Value→World→Prop} {K:Act→World→Prop} {Q:Exit→Act→World→Prop} (hd:∀c,o.op≠.defer c) (h:OpDoes P y o a w N) (hN:∀v w',N v w'→K (a.put o.dst v) w'):o.wpIn (FW rd) 0 P a w K Q:=by
 unfold Oper.wpIn
 refine⟨fun f _=>trivial,?_⟩
 rw [Oper.semAt_eq _ _ _ hd]
 rcases h with ⟨nv,v,w',hr,hnv,h⟩|⟨f,vs,hr,h⟩|⟨_,l,fn,tmps,x,b,hr,h⟩
 ·rw [hr]
  rcases hnv with rfl|⟨rfl,rfl⟩
  ·rw [Oper.uponIn_value];exact hN _ _ h
  ·exact hN _ _ h
 ·rw [hr,Oper.uponIn_enter]
  refine⟨fun h=>(by simp [FW,Fence.wide] at h),?_⟩
  have h2:CallsIn Fence.wide 0 P f vs w _:=callsIn_wide.2 h
  have h3:CallsIn (FW rd) 0 P f vs w fun e w'=>∃v,e=.returned v∧N v w':=⟨trivial,fun cs _=>h2.2 cs (room_wide _)⟩
  refine CallsIn.mono h3 ?_
  rintro e' w' ⟨v,rfl,h⟩
  exact hN _ _ h
 ·rw [hr,Oper.uponIn_round]
  refine⟨fun h=>(by simp [FW,Fence.wide] at h),?_⟩
  have h3:RoundIn (FW rd) 0 P l fn tmps x b w fun e w'=>∃v,e=.returned v∧N v w':=⟨trivial,fun c cs _=>h.2 c cs (room_wide _)⟩
  refine RoundIn.mono h3 ?_
  rintro e' w' ⟨v,rfl,h⟩
  exact hN _ _ h
def YOk (P:Program) (E:Env) (Z:List (Nat→PV)→Base→Prop) (G:List (Array Value)) (A:Nat→Prop):Prop :=
 ∀l T,E.yl=some (l,T)→∀(n:Nat) (a:Act) (w:World) (s:St) (args:List PV) (vs:Array Value) (K:PV→St→Prop),SimV E.strict Z G n A a w s args vs.toList→T args s K →
  YieldAt Fence.wide 0 P l vs w fun e w'=>∃v p s',e=.returned v∧K p s'∧SimV E.strict Z G n A a w' s' [p] [v]
theorem yield_sound (h:Rel G n w0 ok a w s β) {c:Call} (ho:∀x∈(Op.call c).operands,opdOk n x=true) {l:Nat} {args:List PV} (e:yieldArgs s c=some (l,args)) :
  ∃vs,(∀dst ty pos after guard,(execOp a.eval ⟨dst,.call c,ty,pos,after,guard⟩).run P w=(Instr.yield l vs).run P w)∧args.length=vs.size∧∀(i:Nat) p v,args[i]? = some p→vs[i]? = some v→R ok w s.H β s.nx p v:=by
 unfold yieldArgs at e
 split at e
 ·rename_i x hcal
  split at e
  ·rename_i l' hx
   simp only [Option.some.injEq,Prod.mk.injEq] at e
   obtain⟨rfl,rfl⟩:=e
   have hv:=h.evv (ho x (by simp [Op.operands,Call.operands,hcal])) hx
   refine⟨c.args.map a.eval,fun dst ty pos after guard=>by simp [execOp,resolve,hcal,hv,Deferred.ofValue,invoke],by simp,fun i p v hp hu=>?_⟩
   simp only [List.getElem?_map,Array.getElem?_toList,Array.getElem?_map,Option.map_eq_some_iff] at hp hu
   obtain⟨y,hy,rfl⟩:=hp
   obtain⟨z,hz,rfl⟩:=hu
   rw [hy] at hz
   cases hz
   exact h.ev (ho y (by simp [Op.operands,Call.operands,Array.mem_of_getElem? hy]))
  ·cases e
 ·cases e
theorem put_defers (a:Act) (d:Option Tmp) (v:Value):(a.put d v).defers=a.defers:=by cases d<;>rfl
theorem put_sv (s:St) (d:Option Tmp) (p:PV):(s.put d p).sv=s.sv:=by
 obtain⟨_,_,_,_⟩:=s
 cases d<;>rfl
theorem vcOp_nodefer {d:Bool} {Kx:Bool→St→Prop} (e:vcOp P E d s o Kx):∀c,o.op≠.defer c:=by
 intro c hc
 unfold vcOp at e
 simp [opQ,opT,isCall,hc] at e
theorem opT_sv {r:Option Prop×St×PV} (e:opT P s o=some r):r.2.1.sv=s.sv:=by
 obtain⟨dst,op,ty,pos,after,guard⟩:=o
 have hmk:∀{s:St} {t:TypeId} {cs:List PV} {r:St×PV},mkBlock P s t cs=some r→r.1.sv=s.sv:=by
  intro s t cs r e
  simp only [mkBlock,Option.bind_eq_some_iff] at e
  obtain⟨_,_,e⟩:=e
  split at e
  ·simp only [Option.some.injEq] at e;subst e;rfl
  ·simp at e
 cases op<;>simp only [opT,reduceCtorEq] at e
 case alloc =>
  simp only [Option.bind_eq_some_iff,Option.map_eq_some_iff] at e
  obtain⟨_,_,_,e,rfl⟩:=e
  exact hmk e
 case box =>
  simp only [Option.bind_eq_some_iff,Option.map_eq_some_iff] at e
  obtain⟨_,_,_,e,rfl⟩:=e
  exact hmk e
 case store =>
  split at e
  ·simp only [Option.bind_eq_some_iff] at e
   obtain⟨_,_,_,_,e⟩:=e
   split at e
   ·simp only [Option.map_eq_some_iff] at e;obtain⟨_,_,rfl⟩:=e;rfl
   ·simp at e
  ·simp at e
 case buildSlice =>
  simp only [Option.bind_eq_some_iff] at e
  obtain⟨_,_,_,_,_,_,_,hz,e⟩:=e
  simp only [frz,Option.map_eq_some_iff] at hz
  obtain⟨_,_,rfl⟩:=hz
  split at e
  ·simp only [Option.some.injEq] at e;subst e;exact kill_sv _ _
  ·simp at e
 case makeSlice =>
  simp only [Option.bind_eq_some_iff] at e
  obtain⟨_,_,_,_,_,_,_,_,_,_,e⟩:=e
  split at e
  ·split at e
   ·simp only [Option.some.injEq] at e;subst e;rfl
   ·simp at e
  ·simp at e
 case call =>
  split at e
  ·split at e
   ·split at e
    ·simp only [appendIn,Option.bind_eq_some_iff] at e
     obtain⟨_,_,_,_,_,_,_,_,e⟩:=e
     split at e
     ·simp only [Option.some.injEq] at e;subst e;rfl
     ·simp at e
    simp only [appendT,Option.bind_eq_some_iff] at e
    obtain⟨_,_,_,_,_,_,_,_,_,_,e⟩:=e
    split at e
    ·split at e
     ·simp only [Option.bind_eq_some_iff] at e
      obtain⟨_,_,e⟩:=e
      split at e
      ·simp only [Option.some.injEq] at e;subst e;rfl
      ·simp at e
     ·simp only [Option.some.injEq] at e;subst e;rfl
     ·simp at e
    ·simp at e
   ·simp at e
  ·unfold clearT at e
   split at e
   ·simp only [Option.bind_eq_some_iff] at e
    obtain⟨_,_,_,_,_,_,e⟩:=e
    split at e
    ·simp only [Option.some.injEq] at e;subst e;rfl
    ·simp at e
   ·simp at e
  ·simp at e
theorem callRes_sv {f:FuncId} {args:List PV} {r:Option Prop×St×PV} (e:callRes E s f args=some r):r.2.1.sv=s.sv:=by
 simp only [callRes,Option.bind_eq_some_iff] at e
 obtain⟨_,_,_,_,e⟩:=e
 split at e
 ·simp only [Option.some.injEq] at e
  subst e
  generalize hk:s.kill _=s1
  have:=kill_sv s (args.flatMap (reach s.H 4))
  rw [hk] at this
  exact this
 ·obtain⟨_,_,e⟩:=callRes_case e
  split at e
  ·subst e;rfl
  ·subst e;exact kill_sv _ _
theorem vcOp_does {Z:List (Nat→PV)→Base→Prop} (hE:EnvOk P E) (hZ:ZOk Z) (hY:YOk P E Z G A) (h:Sim E.strict Z G n A a w s) (ho:operOk n o=true) {d:Bool} {Kx:Bool→St→Prop} (e:vcOp P E d s o Kx) :
  OpDoes P E.yl.isSome o a w fun v w'=>(growsB o.op=true→(∀f,E.inl f=none)→E.yl=none→Below w.heap.size w w')∧∃ch s',Kx ch s'∧(ch=false→SameFr o.dst s s')∧Sim E.strict Z G n A (a.put o.dst v) w' s':=by
 obtain⟨b,ok,β,hz,h,hA1,hA2,hA3⟩:=h
 have hA3':∀v,E.strict=true→(a.put o.dst v).defers=[]:=fun v hs=>by rw [put_defers];exact hA3 hs
 obtain⟨ho1,ho2,ho3⟩:=operOk_spec ho
 unfold vcOp at e
 split at e
 ·rename_i r hp
  obtain⟨hm,e⟩:=need_iff.1 e
  simp only [PV.to_eq,St.to_eq,St.toH_eq] at e
  obtain⟨v,hv,hrun⟩:=opQ_sound h ho1 hm hp
  exact .inl ⟨_,v,w,hrun w (Below.refl _ _),.inl rfl,fun _ _ _=>Below.refl _ _,_,_,e,fun _=>SameFr.put rfl _,b,ok,β,by rw [put_sv];exact hz,h.put o.dst hv,hA1,hA2,hA3' v⟩
 ·split at e
  ·rename_i r hr
   obtain⟨nv,v,w',β',ok',k1,k2,hrun,hnv,h1,h2,h3,h4⟩:ActsW P G n b ok a w o r.2:=opT_sound h ho1 (by
    split at e
    ·exact e.elim
    ·exact(need_iff.1 e).1) hr
   have hok:∀k,ok' k→A k∨(E.strict=false∧b.heap.size≤k):=by
    intro k hk
    split at e
    ·exact e.elim
    ·rename_i hne
     cases hs:E.strict with
     |false=>exact(k2 k hk).elim (fun h=>by have:=hA2 k h;rw [hs] at this;exact this) fun h=>.inr ⟨rfl,h⟩
     |true =>
      have hb:isBuild o.op=false:=by
       cases hb:isBuild o.op with
       |false=>rfl
       |true=>exact(hne hs hb).elim
      rw [h4 hb] at hk
      have:=hA2 k hk
      rw [hs] at this
      exact this
   have e':Kx false (r.2.1.put o.dst r.2.2):=by
    split at e
    ·exact e.elim
    ·have e:=(need_iff.1 e).2
     simpa only [PV.to_eq,St.to_eq,St.toH_eq] using e
   refine .inl ⟨nv,v,w',hrun,hnv,fun hg _ _=>h3 ?_,_,_,e',fun _=>SameFr.put (opT_fr hr) _,b,ok',β',by rw [put_sv,opT_sv hr];exact hz,h1.put o.dst h2,fun k hk=>k1 k (hA1 k hk),hok,hA3' v⟩
   unfold growsB at hg
   rcases(Bool.or_eq_true _ _).mp hg with hg|hg
   ·exact hg
   ·exfalso
    obtain⟨dst,op,ty,pos,after,guard⟩:=o
    cases op<;>simp [opT] at hr hg
    split at hr
    ·rename_i hcal _ _
     rw [hcal] at hg
     simp at hg
    ·rename_i hcal _ _
     rw [hcal] at hg
     simp at hg
    ·simp at hr
  ·split at e
   ·exact e.elim
   ·rename_i c hc
    obtain⟨dst,op,ty,pos,after,guard⟩:=o
    cases op<;>simp only [isCall,Option.some.injEq,reduceCtorEq] at hc
    subst hc
    split at e
    ·split at e
     ·rename_i l T l' args hyl hya
      obtain⟨rfl,e⟩:=e
      rw [toL_eq] at e
      obtain⟨vs,hrun,hl,hR⟩:=yield_sound (P:=P) h ho1 hya
      obtain⟨fn,tmps,x,bo,hr,hro⟩:=hY _ T hyl n a w s args vs _ ⟨b,ok,β,hz,h,hA1,hA2,hA3,by simpa using hl,fun i p v hp hv=>hR i p v hp (by simpa using hv)⟩ e
      refine .inr (.inr ⟨by rw [hyl];rfl,_,fn,tmps,x,bo,(hrun _ _ _ _ _).trans hr,hro.mono ?_⟩)
      rintro e' w' ⟨v,p,s',rfl,hk,b',ok',β',hz',h1,h3,h4,h5,_,h2⟩
      simp only [PV.to_eq,St.to_eq,St.toH_eq] at hk
      exact⟨v,rfl,fun _ _ h=>(by rw [hyl] at h;cases h),_,_,hk,nofun,b',ok',β',by rw [put_sv];exact hz',h1.put dst (h2 0 p v (by simp) (by simp)),h3,h4,fun hs=>by rw [put_defers];exact h5 hs⟩
     ·exact e.elim
    ·rename_i f args hr
     split at e
     ·rename_i T hT
      obtain⟨hent,hTs⟩:=hE.2.1 f T hT
      obtain⟨vs,hrun,hl,hR⟩:=callee_sound (dst:=dst) (ty:=ty) (pos:=pos) (after:=after) (guard:=guard) h ho1 hr hent
      split at e
      ·exact e.elim
      ·rename_i hd
       have hs:E.strict=false:=by
        cases hs:E.strict with
        |false=>rfl
        |true=>rw [hs] at hd;cases hd
       rw [toL_eq] at e
       refine .inr (.inl ⟨f,vs,hrun w,(hTs Z G n A a w s args vs _ hZ ⟨b,ok,β,hz,h,hA1,fun k hk=>by have:=hA2 k hk;rw [hs] at this;exact this,nofun,by simpa using hl,fun i p v hp hv=>hR i p v hp (by simpa using hv)⟩ e).mono ?_⟩)
       rintro e' w' ⟨v,p,s',rfl,hk,b',ok',β',hz',h1,h3,h4,_,_,h2⟩
       simp only [PV.to_eq,St.to_eq,St.toH_eq] at hk
       exact⟨v,rfl,fun _ hi _=>(by rw [hi f] at hT;cases hT),_,_,hk,nofun,b',ok',β',by rw [put_sv];exact hz',h1.put dst (h2 0 p v (by simp) (by simp)),h3,fun k hk=>by rw [hs];exact h4 k hk,fun h=>by rw [hs] at h;cases h⟩
     ·split at e
      ·exact e.elim
      ·rename_i r hres
       obtain⟨cd,r⟩:=r
       simp only at e
       split at e
       ·rename_i hd
        have hs:E.strict=false:=by
         cases hs:E.strict with
         |false=>rfl
         |true=>rw [hs] at hd;cases hd
        obtain⟨hm,e⟩:=need_iff.1 e
        simp only [PV.to_eq,St.to_eq,St.toH_eq] at e
        obtain⟨vs,hrun,hl,hR⟩:=callee_sound (dst:=dst) (ty:=ty) (pos:=pos) (after:=after) (guard:=guard) h ho1 hr (call_enter hE hres)
        obtain⟨_,hcalls⟩:=call_sound hE h hl hR hm hres
        refine .inr (.inl ⟨f,vs,hrun w,hcalls.mono ?_⟩)
        rintro e' w' ⟨v,rfl,hb,_,ok',β',h1,h2,h3,h4⟩
        exact⟨v,rfl,fun _ _ _=>hb,_,_,e,fun _=>SameFr.put (callRes_fr hres) _,b,ok',β',by rw [put_sv,callRes_sv hres];exact hz,h1.put dst h2,fun k hk=>h3 k (hA1 k hk),fun k hk=>(h4 k hk).elim (hA2 k) fun h=>.inr ⟨hs,h⟩,fun h=>by rw [hs] at h;cases h⟩
       ·rename_i v _ hv
        split at e
        ·rename_i hown
         obtain⟨hm,e⟩:=need_iff.1 e
         simp only [PV.to_eq,St.to_eq,St.toH_eq] at e
         obtain⟨vs,hrun,hl,hR⟩:=callee_sound (dst:=dst) (ty:=ty) (pos:=pos) (after:=after) (guard:=guard) h ho1 hr (call_enter hE hres)
         obtain⟨_,hcalls⟩:=call_sound hE h hl hR hm hres
         refine .inr (.inl ⟨f,vs,hrun w,hcalls.mono ?_⟩)
         rintro e' w' ⟨u,rfl,hb,hu,_⟩
         exact⟨u,rfl,fun _ _ _=>hb,_,_,e,fun _=>SameFr.put rfl _,b,ok,β,by rw [put_sv];exact hz,(h.below hb).put dst (by rw [hu v hv hown];exact .val v),hA1,hA2,hA3' u⟩
        ·exact e.elim
       ·exact e.elim
theorem vcOp_quiet (hE:EnvOk P E) (hyl:E.yl=none) (h:Rel G n w0 ok a w s β) (ho:operOk n o=true) (hq:qKind o.op=true) {Kx:Bool→St→Prop} (e:vcOp P E true s o Kx) :
  ∃v s',Kx false s'∧SameFr o.dst s s'∧s'.sv=s.sv∧(∀W,Below w.heap.size w W→o.quietAt P a (fun W=>Below w.heap.size w W) W v)∧Rel G n w0 ok (a.put o.dst v) w s' β:=by
 obtain⟨ho1,ho2,ho3⟩:=operOk_spec ho
 unfold vcOp at e
 split at e
 ·rename_i r hp
  obtain⟨hm,e⟩:=need_iff.1 e
  simp only [PV.to_eq,St.to_eq,St.toH_eq] at e
  obtain⟨v,hv,hrun⟩:=opQ_sound h ho1 hm hp
  refine⟨v,_,e,SameFr.put rfl _,put_sv _ _ _,fun W hW=>?_,h.put o.dst hv⟩
  unfold Oper.quietAt
  rw [hrun W hW]
  exact⟨rfl,rfl⟩
 ·split at e
  ·rename_i r hr
   exfalso
   obtain⟨dst,op,ty,pos,after,guard⟩:=o
   cases op<;>simp [opT,qKind] at hr hq
   split at hr
   ·rename_i hcal _ _
    rw [hcal] at hq
    simp at hq
   ·rename_i hcal _ _
    rw [hcal] at hq
    simp at hq
   ·simp at hr
  ·split at e
   ·exact e.elim
   ·rename_i c hc
    split at e
    ·rw [hyl] at e
     exact e.elim
    ·rename_i f args hr
     obtain⟨dst,op,ty,pos,after,guard⟩:=o
     cases op<;>simp only [isCall,Option.some.injEq,reduceCtorEq] at hc
     subst hc
     have hdd:(bif E.strict then true else true)=true:=by cases E.strict<;>rfl
     rw [hdd] at e
     split at e
     ·simp only at e
     ·split at e
      ·exact e.elim
      ·rename_i r hres
       obtain⟨cd,r⟩:=r
       simp only at e
       split at e
       ·contradiction
       ·rename_i v _ hv
        split at e
        ·rename_i hown
         obtain⟨hm,e⟩:=need_iff.1 e
         simp only [PV.to_eq,St.to_eq,St.toH_eq] at e
         refine⟨v,_,e,SameFr.put rfl _,put_sv _ _ _,fun W hW=>?_,h.put dst (.val v)⟩
         obtain⟨vs,hrun,hl,hR⟩:=callee_sound (dst:=dst) (ty:=ty) (pos:=pos) (after:=after) (guard:=guard) (h.below hW) ho1 hr (call_enter hE hres)
         obtain⟨_,hcalls⟩:=call_sound hE (h.below hW) hl hR hm hres
         unfold Oper.quietAt
         rw [hrun W]
         refine⟨rfl,hcalls.mono ?_⟩
         rintro e' w' ⟨u,rfl,hb,hu,_⟩
         exact⟨by rw [hu v hv hown],hW.trans (hb.mono hW.size)⟩
        ·exact e.elim
       ·exact e.elim
theorem guard_sound (h:Rel G n w0 ok a w s β) {ops:Array Oper} (hops:∀o∈ops,operOk n o=true) {kn:List (Nat×Bool)} {yes no:List (Nat×Bool)→St→Prop} (hkn:∀t b,kn.lookup t=some b→s.fr t=.val (.bool b))
  (e:vcGuard ops.toList kn s o yes no) :
  ∃kn' s',s'.sv=s.sv∧Rel G n w0 ok a w s' β∧(∀t b,kn'.lookup t=some b→s'.fr t=.val (.bool b)) ∧
   ((Region.wanted o (yielded ops a.tmps)=true∧yes kn' s')∨(Region.wanted o (yielded ops a.tmps)=false∧no kn' s')):=by
 unfold vcGuard at e
 unfold Region.wanted
 split at e
 ·rename_i hg
  exact⟨kn,s,rfl,h,hkn,.inl ⟨by simp [hg],e⟩⟩
 ·rename_i j b hg
  split at e
  ·exact e.elim
  ·rename_i t ht
   simp only [Option.bind_eq_some_iff,Array.getElem?_toList] at ht
   obtain⟨oj,hj,ht⟩:=ht
   have htn:=(operOk_spec (hops oj (Array.mem_of_getElem? hj))).2.1 t ht
   have hR:=h.fr t htn
   have hsz:t < a.tmps.size:=by rw [h.size];exact htn
   have hget:a.tmps[t]? = some (a.tmps.getD t undef):=by simp [Array.getD,hsz]
   rw [hg]
   simp only [yielded,hj,Option.bind_some,ht,hget]
   split at e
   ·rename_i c hp
    rw [hp] at hR
    rw [hR.val_eq]
    split at e
    ·rename_i k hk
     have:=hkn t k hk
     rw [hp] at this
     cases this
     split at e
     ·exact⟨kn,s,rfl,h,hkn,.inl ⟨rfl,e⟩⟩
     ·exact⟨kn,s,rfl,h,hkn,.inl ⟨rfl,e⟩⟩
     ·rename_i n1 n2
      refine⟨kn,s,rfl,h,hkn,.inr ⟨?_,e⟩⟩
      cases c<;>cases b<;>simp_all
    ·rename_i hk
     have put:∀b',c=b'→Rel G n w0 ok a w (s.put (some t) (.val (.bool b'))) β∧∀t' b2,((t,b')::kn).lookup t'=some b2→(s.put (some t) (.val (.bool b'))).fr t'=.val (.bool b2):=by
      rintro b' rfl
      refine⟨⟨fun t' ht'=>?_,h.size,h.defers,h.heap,h.ext,h.oklt,h.sv,h.pins⟩,fun t' b2 e2=>?_⟩
      ·by_cases htt:t'=t
       ·subst htt;simp only [St.put,upd_self];rw [hR.val_eq];exact .val _
       ·simp only [St.put,upd_ne htt];exact h.fr t' ht'
      ·simp only [List.lookup_cons] at e2
       by_cases htt:t'=t
       ·subst htt
        simp only [beq_self_eq_true,Option.some.injEq] at e2
        simp only [St.put,upd_self,e2]
       ·have:(t'==t)=false:=by simpa using htt
        rw [this] at e2
        simp only [St.put,upd_ne htt]
        exact hkn t' b2 e2
     by_cases hcb:c=b
     ·exact⟨_,_,put_sv _ _ _,(put b hcb).1,(put b hcb).2,.inl ⟨by simp [hcb],e.1 hcb⟩⟩
     ·have hcb':c = !b:=by cases c<;>cases b<;>simp_all
      exact⟨_,_,put_sv _ _ _,(put (!b) hcb').1,(put (!b) hcb').2,.inr ⟨by simp [hcb'],e.2 hcb'⟩⟩
   ·rename_i vs hp
    rw [hp] at hR
    rw [hR.val_eq]
    exact⟨kn,s,rfl,h,hkn,.inr ⟨rfl,e⟩⟩
   ·exact e.elim
def Known (kn:List (Nat×Bool)) (s:St):Prop:=∀t b,kn.lookup t=some b→s.fr t=.val (.bool b)
theorem lookup_drop (d:Nat):∀(kn:List (Nat×Bool)) (t:Nat) (b:Bool),(kn.filter fun x=>!(x.1==d)).lookup t=some b→t≠d∧kn.lookup t=some b
 |[],t,b,h=>by simp at h
 |(k,c)::kn,t,b,h=>by
  by_cases hk:k=d
  ·subst hk
   simp only [List.filter_cons,beq_self_eq_true,Bool.not_true,Bool.false_eq_true,if_false] at h
   obtain⟨h1,h2⟩:=lookup_drop k kn t b h
   have:(t==k)=false:=by simpa using h1
   exact⟨h1,by rw [List.lookup_cons,this];exact h2⟩
  ·have hk':(k==d)=false:=by simpa using hk
   simp only [List.filter_cons,hk',Bool.not_false,if_true] at h
   rw [List.lookup_cons] at h ⊢
   by_cases htk:t=k
   ·subst htk
    simp only [beq_self_eq_true] at h ⊢
    exact⟨hk,h⟩
   ·have htk':(t==k)=false:=by simpa using htk
    rw [htk'] at h ⊢
    exact lookup_drop d kn t b h
theorem Known.step {kn:List (Nat×Bool)} {s s':St} {d:Option Tmp} (h:Known kn s) (hs:SameFr d s s'):Known (dropK d kn) s':=by
 intro t b e
 cases d with
 |none=>rw [hs t (by simp)];exact h t b e
 |some d =>
  obtain⟨h1,h2⟩:=lookup_drop d kn t b e
  rw [hs t (by simpa using fun e=>h1 e.symm)]
  exact h t b h2
section
variable {Z:List (Nat→PV)→Base→Prop}
theorem vcOps_sound (hE:EnvOk P E) (hZ:ZOk Z) (hY:YOk P E Z G A) {rd:Option Nat} {ops:Array Oper} (hops:∀o∈ops,operOk n o=true) {d:Bool} {Kx:St→Prop} {Q:Exit→Act→World→Prop} (hQ:∀s' a' w',Kx s'→Sim E.strict Z G n A a' w' s'→Q .normal a' w') :
  ∀(l:List Oper) (kn:List (Nat×Bool)) (s:St) (a:Act) (w:World),(∀o∈l,operOk n o=true)→Known kn s→vcOps P E d ops.toList l kn s Kx→Sim E.strict Z G n A a w s→wpListIn (FW rd) 0 P ops Q l a w
 |[],kn,s,a,w,_,_,e,h=>hQ s a w e h
 |o::l,kn,s,a,w,ho,hk,e,h=>by
  obtain⟨b,ok,β,hz,h,h1,h2,h3⟩:=h
  rw [vcOps_cons] at e
  obtain⟨kn',s',hsv,hr,hk',hw⟩:=guard_sound h hops hk e
  unfold wpListIn
  rcases hw with ⟨hw,e⟩|⟨hw,e⟩
  ·rw [hw]
   simp only [if_true]
   refine OpDoes.wpIn (vcOp_nodefer e) (vcOp_does hE hZ hY ⟨b,ok,β,by rw [hsv];exact hz,hr,h1,h2,h3⟩ (ho o (by simp)) e) ?_
   rintro v w' ⟨_,ch,s2,e',hs,h'⟩
   refine vcOps_sound hE hZ hY hops hQ l _ s2 _ w' (fun o ho'=>ho o (by simp [ho'])) ?_ e' h'
   cases ch with
   |true=>intro t b e;simp at e
   |false=>exact Known.step hk' (hs rfl)
  ·rw [hw]
   simp only [Bool.false_eq_true,if_false]
   exact⟨fun _ _=>trivial,vcOps_sound hE hZ hY hops hQ l _ _ _ w (fun o ho'=>ho o (by simp [ho'])) (Known.step hk' (SameFr.put rfl _)) e ⟨b,ok,β,by rw [put_sv,hsv];exact hz,hr.put o.dst (.val undef),h1,h2,fun hs=>by rw [put_defers];exact h3 hs⟩⟩
theorem vcOps_sound_wp (hE:EnvOk P E) (hZ:ZOk Z) (hyl:E.yl=none) {ops:Array Oper} (hops:∀o∈ops,operOk n o=true) {d:Bool} {Kx:St→Prop} {Q:Exit→Act→World→Prop} (hQ:∀s' a' w',Kx s'→Sim E.strict Z G n A a' w' s'→Q .normal a' w') :
  ∀(l:List Oper) (kn:List (Nat×Bool)) (s:St) (a:Act) (w:World),(∀o∈l,operOk n o=true)→Known kn s→vcOps P E d ops.toList l kn s Kx→Sim E.strict Z G n A a w s→wpList P ops Q l a w
 |[],kn,s,a,w,_,_,e,h=>hQ s a w e h
 |o::l,kn,s,a,w,ho,hk,e,h=>by
  obtain⟨b,ok,β,hz,h,h1,h2,h3⟩:=h
  rw [vcOps_cons] at e
  obtain⟨kn',s',hsv,hr,hk',hw⟩:=guard_sound h hops hk e
  unfold wpList
  have hY:YOk P E Z G A:=fun l T hl=>by rw [hyl] at hl;cases hl
  rcases hw with ⟨hw,e⟩|⟨hw,e⟩
  ·rw [hw]
   simp only [if_true]
   have hd:=vcOp_does hE hZ hY ⟨b,ok,β,by rw [hsv];exact hz,hr,h1,h2,h3⟩ (ho o (by simp)) e
   rw [hyl] at hd
   refine .inl (OpDoes.wp hd ?_)
   rintro v w' ⟨_,ch,s2,e',hs,h'⟩
   refine vcOps_sound_wp hE hZ hyl hops hQ l _ s2 _ w' (fun o ho'=>ho o (by simp [ho'])) ?_ e' h'
   cases ch with
   |true=>intro t b e;simp at e
   |false=>exact Known.step hk' (hs rfl)
  ·rw [hw]
   simp only [Bool.false_eq_true,if_false]
   exact vcOps_sound_wp hE hZ hyl hops hQ l _ _ _ w (fun o ho'=>ho o (by simp [ho'])) (Known.step hk' (SameFr.put rfl _)) e ⟨b,ok,β,by rw [put_sv,hsv];exact hz,hr.put o.dst (.val undef),h1,h2,fun hs=>by rw [put_defers];exact h3 hs⟩
theorem vcOps_quiet (hE:EnvOk P E) (hyl:E.yl=none) {ops:Array Oper} (hops:∀o∈ops,operOk n o=true) {Kx:St→Prop} {Q:Act→Prop} (l2:List Oper) {sv:List (Nat→PV)} {df:List Deferred}
  (hQ:∀kn s' a',s'.sv=sv→a'.defers=df→Known kn s'→vcOps P E true ops.toList l2 kn s' Kx→Rel G n w0 ok a' w s' β→Q a') :
  ∀(l:List Oper) (kn:List (Nat×Bool)) (s:St) (a:Act),s.sv=sv→a.defers=df→(∀o∈l,operOk n o=true∧qKind o.op=true)→Known kn s→vcOps P E true ops.toList (l++l2) kn s Kx→Rel G n w0 ok a w s β→wpQuiet P ops (fun W=>Below w.heap.size w W) Q l a
 |[],kn,s,a,hsv,hdf,_,hk,e,h=>hQ kn s a hsv hdf hk e h
 |o::l,kn,s,a,hsv,hdf,ho,hk,e,h=>by
  rw [List.cons_append] at e
  rw [vcOps_cons] at e
  obtain⟨kn',s',hsv',hr,hk',hw⟩:=guard_sound h hops hk e
  unfold wpQuiet
  rcases hw with ⟨hw,e⟩|⟨hw,e⟩
  ·rw [hw]
   simp only [if_true]
   obtain⟨v,s2,e',hs,hsv2,hv1,hv2⟩:=vcOp_quiet hE hyl hr (ho o (by simp)).1 (ho o (by simp)).2 e
   exact⟨v,hv1,vcOps_quiet hE hyl hops l2 hQ l _ s2 _ (by rw [hsv2,hsv',hsv]) (by rw [put_defers];exact hdf) (fun o ho'=>ho o (by simp [ho'])) (Known.step hk' hs) e' hv2⟩
  ·rw [hw]
   simp only [Bool.false_eq_true,if_false]
   exact vcOps_quiet hE hyl hops l2 hQ l _ _ _ (by rw [put_sv,hsv',hsv]) (by rw [put_defers];exact hdf) (fun o ho'=>ho o (by simp [ho'])) (Known.step hk' (SameFr.put rfl _)) e (hr.put o.dst (.val undef))
theorem sub_any (h:Rel G n w0 ok a w s β) (ho:∀x∈o.op.operands,opdOk n x=true) (hb:subB o=true) {r:Option Prop×PV} (e:opQ P s o=some r):∃v,∀W,(execOp a.eval o).run P W=.ok (.value v) W:=by
 obtain⟨dst,op,ty,pos,after,guard⟩:=o
 cases op with
 |binOp op t x y t' =>
  have hop:op=.sub:=by
   cases op<;>first|rfl|cases hb
  subst hop
  have e2:pureO P s ⟨dst,.binOp .sub t x y t',ty,pos,after,guard⟩=some r:=e
  unfold pureO at e2
  split at e2
  ·rename_i hall
   split at e2
   ·rename_i v hv
    refine⟨v,fun w'=>?_⟩
    rw [execOp_congr (ρ':=Ex.rho s) _ (fun cs b he=>by cases he) fun x hx=>(h.rho (ho x hx) (List.all_eq_true.1 hall x (opnds_all rfl x hx))).symm]
    exact pureRun_sound _ hv w'
   ·cases e2
  ·cases e2
 |_=>cases hb
theorem vcOp_read (hyl:E.yl=none) (h:Rel G n w0 ok a w s β) (ho:operOk n o=true) {ops:Array Oper} {i:Nat} (hi:ops[i]? = some o) (hk:headOk ops (i,true)=true) {d:Bool} {Kx:Bool→St→Prop} (e:vcOp P E d s o Kx) :
  ∃v s',Kx false s'∧SameFr o.dst s s'∧s'.sv=s.sv∧((∀W,Below w.heap.size w W→(execOp a.eval o).run P W=.ok (.value v) W)∧(subB o=true→∀W,(execOp a.eval o).run P W=.ok (.value v) W))∧Rel G n w0 ok (a.put o.dst v) w s' β:=by
 obtain⟨ho1,ho2,ho3⟩:=operOk_spec ho
 simp only [headOk,hi,Bool.and_eq_true] at hk
 unfold vcOp at e
 split at e
 ·rename_i r hp
  obtain⟨hm,e⟩:=need_iff.1 e
  simp only [PV.to_eq,St.to_eq,St.toH_eq] at e
  obtain⟨v,hv,hrun⟩:=opQ_sound h ho1 hm hp
  refine⟨v,_,e,SameFr.put rfl _,put_sv _ _ _,⟨hrun,fun hsb W=>?_⟩,h.put o.dst hv⟩
  obtain⟨u,hu⟩:=sub_any h ho1 hsb hp
  have h1:=hu w
  rw [hrun w (Below.refl _ _)] at h1
  cases h1
  exact hu W
 ·exfalso
  split at e
  ·rename_i r hr
   obtain⟨dst,op,ty,pos,after,guard⟩:=o
   cases op<;>simp [opT,qKind] at hr hk
   split at hr
   ·rename_i hcal _ _
    rw [hcal] at hk
    simp at hk
   ·rename_i hcal _ _
    rw [hcal] at hk
    simp at hk
   ·simp at hr
  ·split at e
   ·exact e.elim
   ·rename_i c hc
    obtain⟨dst,op,ty,pos,after,guard⟩:=o
    cases op<;>simp only [isCall,Option.some.injEq,reduceCtorEq] at hc
    subst hc
    split at e
    ·rw [hyl] at e
     exact e.elim
    ·rename_i f args hr
     simp only [calleeArgs] at hr
     split at hr
     ·rename_i hcal
      simp [hcal] at hk
     ·cases hr
theorem step_ord (hE:EnvOk P E) (hZ:ZOk Z) (hyl:E.yl=none) (hin:∀f,E.inl f=none) {rd:Option Nat} {ops:Array Oper} (hops:∀o∈ops,operOk n o=true) {i:Nat} (hh:headOk ops (i,false)=true) {next:List (Nat×Bool)→St→(St→Prop)→Prop} {Kx:St→Prop} {kn:List (Nat×Bool)} (hk:Known kn s) (e:vcStep P E ops.toList i next kn s Kx) (h:Sim E.strict Z G n A a w s)
  {N:Act→World→Prop} (hN:∀kn' s' a' w',Known kn' s'→next kn' s' Kx→Sim E.strict Z G n A a' w' s'→N a' w'):wpOpIn (FW rd) 0 P ops QF i (fun a' w'=>Below w.heap.size w w'∧N a' w') a w:=by
 obtain⟨b,ok,β,hz,h,h1,h2,h3⟩:=h
 obtain⟨o,hi⟩:∃o,ops[i]? = some o:=by
  cases hi:ops[i]? with
  |none=>simp [headOk,hi] at hh
  |some o=>exact⟨o,rfl⟩
 have hop:operOk n o=true:=hops o (Array.mem_of_getElem? hi)
 have hY:YOk P E Z G A:=fun l T hl=>by rw [hyl] at hl;cases hl
 have hil:ops.toList[i]? = some o:=by simpa using hi
 simp only [vcStep,hil] at e
 obtain⟨kn',s',hsv,hr,hk',hw⟩:=guard_sound h hops hk e
 have hz':Z s'.sv b:=by rw [hsv];exact hz
 unfold wpOpIn
 simp only [hi]
 rcases hw with ⟨hw,e⟩|⟨hw,e⟩
 ·rw [hw]
  simp only [if_true]
  refine OpDoes.wpIn (vcOp_nodefer e) (vcOp_does hE hZ hY ⟨b,ok,β,hz',hr,h1,h2,h3⟩ hop e) ?_
  rintro v w' ⟨hb,ch,s2,e',hs,h'⟩
  refine⟨hb ?_ hin hyl,hN _ s2 _ w' ?_ e' h'⟩
  ·simpa [headOk,hi] using hh
  ·cases ch with
   |true=>intro t b e;simp at e
   |false=>exact Known.step hk' (hs rfl)
 ·rw [hw]
  simp only [Bool.false_eq_true,if_false]
  exact⟨fun _ _=>trivial,Below.refl _ _,hN _ _ _ w (Known.step hk' (SameFr.put rfl _)) e ⟨b,ok,β,by rw [put_sv];exact hz',hr.put o.dst (.val undef),h1,h2,fun hs=>by rw [put_defers];exact h3 hs⟩⟩
theorem vcOps_ord (hE:EnvOk P E) (hZ:ZOk Z) (hyl:E.yl=none) (hin:∀f,E.inl f=none) {rd:Option Nat} {ops:Array Oper} (hops:∀o∈ops,operOk n o=true) {Kx:St→Prop} :
  ∀(l:OT) (kn:List (Nat×Bool)) (s:St) (a:Act) (w:World),headsOk ops l=true→Known kn s→vcTree P E ops.toList l kn s Kx→Sim E.strict Z G n A a w s →
   wpOrd (FW rd) 0 P ops (fun a' w'=>∃s',Kx s'∧Sim E.strict Z G n A a' w' s') l a w
 |.nil,kn,s,a,w,_,_,e,h=>⟨s,e,h⟩
 |.rd i l,kn,s,a,w,ho,hk,e,h=>by
  change vcStep P E ops.toList i (vcTree P E ops.toList l) kn s Kx at e
  simp only [headsOk,Bool.and_eq_true] at ho
  obtain⟨hh,ho⟩:=ho
  obtain⟨b,ok,β,hz,h,h1,h2,h3⟩:=h
  obtain⟨o,hi⟩:∃o,ops[i]? = some o:=by
   cases hi:ops[i]? with
   |none=>simp [headOk,hi] at hh
   |some o=>exact⟨o,rfl⟩
  have hop:operOk n o=true:=hops o (Array.mem_of_getElem? hi)
  have hil:ops.toList[i]? = some o:=by simpa using hi
  simp only [vcStep,hil] at e
  obtain⟨kn',s',hsv,hr,hk',hw⟩:=guard_sound h hops hk e
  have hz':Z s'.sv b:=by rw [hsv];exact hz
  unfold wpOrd
  rcases hw with ⟨hw,e⟩|⟨hw,e⟩
  ·obtain⟨v,s2,e',hs,hsv2,hv1,hv2⟩:=vcOp_read hyl hr hop hi hh e
   exact⟨o,v,hi,.inl ⟨hw,hv1.1,hv1.2⟩,vcOps_ord hE hZ hyl hin hops l _ s2 _ w ho (Known.step hk' hs) e' ⟨b,ok,β,by rw [hsv2];exact hz',hv2,h1,h2,fun hs=>by rw [put_defers];exact h3 hs⟩⟩
  ·exact⟨o,undef,hi,.inr ⟨hw,rfl⟩,vcOps_ord hE hZ hyl hin hops l _ _ _ w ho (Known.step hk' (SameFr.put rfl _)) e ⟨b,ok,β,by rw [put_sv];exact hz',hr.put o.dst (.val undef),h1,h2,fun hs=>by rw [put_defers];exact h3 hs⟩⟩
 |.mk i l,kn,s,a,w,ho,hk,e,h=>by
  change vcStep P E ops.toList i (vcTree P E ops.toList l) kn s Kx at e
  simp only [headsOk,Bool.and_eq_true] at ho
  exact step_ord hE hZ hyl hin hops ho.1 hk e h fun kn' s' a' w' hk' e' h'=>vcOps_ord hE hZ hyl hin hops l kn' s' a' w' ho.2 hk' e' h'
 |.alt i l u,kn,s,a,w,ho,hk,e,h=>by
  change vcStep P E ops.toList i (vcTree P E ops.toList l) kn s Kx∧vcTree P E ops.toList u kn s Kx at e
  simp only [headsOk,Bool.and_eq_true] at ho
  exact⟨step_ord hE hZ hyl hin hops ho.1.1 hk e.1 h fun kn' s' a' w' hk' e' h'=>vcOps_ord hE hZ hyl hin hops l kn' s' a' w' ho.1.2 hk' e' h',vcOps_ord hE hZ hyl hin hops u kn s a w ho.2 hk e.2 h⟩
theorem step_enum (hE:EnvOk P E) (hZ:ZOk Z) (hY:YOk P E Z G A) {rd:Option Nat} {ops:Array Oper} (hops:∀o∈ops,operOk n o=true) {Q:Exit→Act→World→Prop} {i:Nat} {next:List (Nat×Bool)→St→(St→Prop)→Prop} {Kx:St→Prop} {kn:List (Nat×Bool)} (hk:Known kn s) (e:vcStep P E ops.toList i next kn s Kx) (h:Sim E.strict Z G n A a w s)
  {N:Act→World→Prop} (hN:∀kn' s' a' w',Known kn' s'→next kn' s' Kx→Sim E.strict Z G n A a' w' s'→N a' w'):wpOpIn (FW rd) 0 P ops Q i N a w:=by
 obtain⟨b,ok,β,hz,h,h1,h2,h3⟩:=h
 cases hi:ops[i]? with
 |none =>
  have hil:ops.toList[i]? = none:=by simpa using hi
  simp only [vcStep,hil] at e
 |some o =>
 have hop:operOk n o=true:=hops o (Array.mem_of_getElem? hi)
 have hil:ops.toList[i]? = some o:=by simpa using hi
 simp only [vcStep,hil] at e
 obtain⟨kn',s',hsv,hr,hk',hw⟩:=guard_sound h hops hk e
 have hz':Z s'.sv b:=by rw [hsv];exact hz
 unfold wpOpIn
 simp only [hi]
 rcases hw with ⟨hw,e⟩|⟨hw,e⟩
 ·rw [hw]
  simp only [if_true]
  refine OpDoes.wpIn (vcOp_nodefer e) (vcOp_does hE hZ hY ⟨b,ok,β,hz',hr,h1,h2,h3⟩ hop e) ?_
  rintro v w' ⟨_,ch,s2,e',hs,h'⟩
  refine hN _ s2 _ w' ?_ e' h'
  cases ch with
  |true=>intro t b e;simp at e
  |false=>exact Known.step hk' (hs rfl)
 ·rw [hw]
  simp only [Bool.false_eq_true,if_false]
  exact⟨fun _ _=>trivial,hN _ _ _ w (Known.step hk' (SameFr.put rfl _)) e ⟨b,ok,β,by rw [put_sv];exact hz',hr.put o.dst (.val undef),h1,h2,fun hs=>by rw [put_defers];exact h3 hs⟩⟩
theorem vcTree_enum (hE:EnvOk P E) (hZ:ZOk Z) (hY:YOk P E Z G A) {rd:Option Nat} {ops:Array Oper} (hops:∀o∈ops,operOk n o=true) {Kx:St→Prop} {Q:Exit→Act→World→Prop} (hQ:∀s' a' w',Kx s'→Sim E.strict Z G n A a' w' s'→Q .normal a' w') :
  ∀(l:OT) (kn:List (Nat×Bool)) (s:St) (a:Act) (w:World),Known kn s→vcTree P E ops.toList l kn s Kx→Sim E.strict Z G n A a w s→wpEnum (FW rd) 0 P ops Q l a w
 |.nil,kn,s,a,w,_,e,h=>hQ s a w e h
 |.rd i l,kn,s,a,w,hk,e,h=>by
  change vcStep P E ops.toList i (vcTree P E ops.toList l) kn s Kx at e
  exact step_enum hE hZ hY hops hk e h fun kn' s' a' w' hk' e' h'=>vcTree_enum hE hZ hY hops hQ l kn' s' a' w' hk' e' h'
 |.mk i l,kn,s,a,w,hk,e,h=>by
  change vcStep P E ops.toList i (vcTree P E ops.toList l) kn s Kx at e
  exact step_enum hE hZ hY hops hk e h fun kn' s' a' w' hk' e' h'=>vcTree_enum hE hZ hY hops hQ l kn' s' a' w' hk' e' h'
 |.alt i l u,kn,s,a,w,hk,e,h=>by
  change vcStep P E ops.toList i (vcTree P E ops.toList l) kn s Kx∧vcTree P E ops.toList u kn s Kx at e
  exact⟨step_enum hE hZ hY hops hk e.1 h fun kn' s' a' w' hk' e' h'=>vcTree_enum hE hZ hY hops hQ l kn' s' a' w' hk' e' h',vcTree_enum hE hZ hY hops hQ u kn s a w hk e.2 h⟩
theorem splitOf_some {ops:Array Oper}:∀{k m:Nat},splitOf ops k=some m→Region.lexTailB .any ops m=true∧∀o∈ops.toList.take m,qKind o.op=true
 |0,m,h=>by
  simp only [splitOf] at h
  split at h
  ·simp only [Option.some.injEq] at h;subst h;exact⟨by assumption,by simp⟩
  ·simp at h
 |k+1,m,h=>by
  simp only [splitOf] at h
  split at h
  ·rename_i hc
   simp only [Option.some.injEq] at h
   subst h
   simp only [Bool.and_eq_true] at hc
   exact⟨hc.1,List.all_eq_true.1 hc.2⟩
  ·exact splitOf_some h
theorem Sim.below {st:Bool} (h:Sim st Z G n A a w s) {w':World} (hb:Below w.heap.size w w'):Sim st Z G n A a w' s:=by
 obtain⟨b,ok,β,hz,h,h1⟩:=h
 exact⟨b,ok,β,hz,h.below hb,h1⟩
theorem drawn_below (w:World):Below w.heap.size w { w with drawn:=w.drawn+1 }:=⟨rfl,rfl,rfl,Nat.le_refl _,fun _ _=>rfl⟩
theorem Env.plain_ok (hE:EnvOk P E):EnvOk P E.plain:=by
 obtain⟨call,own,inl,seq,yl,strict⟩:=E
 exact⟨hE.1,nofun,hE.2.2⟩
theorem region_sound (hm:P.follows .mixedOrders=true) (hE:EnvOk P E) (hZ:ZOk Z) (hY:YOk P E Z G A) {D:Opt} {rd:Option Nat} (hrd:D.round=false→rd=none) {id:Nat} {ops:Array Oper} {draw:Bool} (hc:codeOk D.toOrd n (.region id ops draw)=true) {K:Exit→St→Prop}
  (e:vc P E D (.region id ops draw) s K) (h:Sim E.strict Z G n A a w s) {Q:Exit→Act→World→Prop} (hQ:∀s' a' w',K .normal s'→Sim E.strict Z G n A a' w' s'→Q .normal a' w') :
  (Code.region id ops draw).wpIn (FW rd) 0 P Q a w:=by
 simp only [codeOk,Bool.and_eq_true] at hc
 obtain⟨hc1,hc2⟩:=hc
 have hops:∀o∈ops,operOk n o=true:=fun o ho=>List.all_eq_true.1 hc1 o (by simpa using ho)
 have hopsl:∀o∈ops.toList,operOk n o=true:=fun o ho=>List.all_eq_true.1 hc1 o ho
 have hlit:ops.toList.toArray=ops:=by simp
 have hkn:∀s,Known [] s:=fun s t b e=>by simp at e
 have hF:∀f,(FW rd).fn f:=fun f=>trivial
 change vcRegion P id ops draw E D s K at e
 unfold vcRegion at e
 cases draw with
 |false=>exact wpIn_region_list (vcOps_sound hE hZ hY hops hQ ops.toList [] s a w hopsl (hkn s) e h)
 |true =>
  cases ha:D.all id with
  |some l =>
   simp only [ha] at e
   simp only [regionOk,ha,Bool.not_true,Bool.false_or] at hc2
   exact wpIn_region_enum l hm hc2 (vcTree_enum hE hZ hY hops hQ l [] s a _ (hkn s) e (h.below (drawn_below w)))
  |none =>
  simp only [ha] at e
  simp only [regionOk,ha] at hc2
  cases hp:D.perm id with
  |some l =>
   simp only [hp] at e
   simp only [hp,Bool.not_true,Bool.false_or,Bool.and_eq_true] at hc2
   have hst:E.plain.strict=E.strict:=by cases E;rfl
   rcases Bool.or_eq_true _ _▸hc2.1 with hc3|hc3
   ·have key:=wpIn_region_ord (F:=FW rd) (n:=0) (P:=P) (id:=id) (Q:=Q) (a:=a) (w:=w) (l:=ops.toList) l hF hm (by rw [hlit];exact hc3) (by
     rw [hlit]
     have:=vcOps_ord (rd:=rd) (Z:=Z) (G:=G) (A:=A) (Env.plain_ok hE) hZ (by cases E;rfl) (by cases E;intro f;rfl) hops l [] s a _ hc2.2 (hkn s) e (by rw [hst];exact h.below (drawn_below w))
     refine wpOrd_mono ?_ l a _ this
     rintro a' w' ⟨s',hk,h'⟩
     rw [hst] at h'
     exact vcOps_sound hE hZ hY hops hQ _ [] s' a' w' (fun o ho=>hopsl o (List.mem_of_mem_drop ho)) (hkn s') hk h')
    rwa [hlit] at key
   ·have key:=wpIn_region_ord2 (F:=FW rd) (n:=0) (P:=P) (id:=id) (Q:=Q) (a:=a) (w:=w) (l:=ops.toList) l hF hm (by rw [hlit];exact hc3) (by
     rw [hlit]
     have:=vcOps_ord (rd:=rd) (Z:=Z) (G:=G) (A:=A) (Env.plain_ok hE) hZ (by cases E;rfl) (by cases E;intro f;rfl) hops l [] s a _ hc2.2 (hkn s) e (by rw [hst];exact h.below (drawn_below w))
     refine wpOrd_mono ?_ l a _ this
     rintro a' w' ⟨s',hk,h'⟩
     rw [hst] at h'
     exact vcOps_sound hE hZ hY hops (Q:=Qn Q) hQ _ [] s' a' w' (fun o ho=>hopsl o (List.mem_of_mem_drop ho)) (hkn s') hk h')
    rwa [hlit] at key
  |none =>
   simp only [hp] at e
   split at e
   ·rename_i hdr hyl
    rw [hrd hdr]
    refine wpIn_wide.2 ?_
    simp only [hp,Bool.not_true,Bool.false_or] at hc2
    cases hD:D.draws id with
    |true =>
     simp only [hD,if_true] at hc2
     simp only [hD,Bool.not_true] at e
     have:=vcOps_sound_wp hE hZ hyl hops hQ ops.toList [] s a _ hopsl (hkn s) e (h.below (drawn_below w))
     have key:=wp_region_quiet_tail (P:=P) (id:=id) (Q:=Q) (a:=a) (w:=w) (l:=ops.toList) (C:=fun W=>W={ w with drawn:=w.drawn+1 }) 0 hm (by rw [hlit];exact hc2) rfl (by
      rw [List.take_zero,hlit,List.drop_zero]
      refine wpQuiet_nil ?_
      rintro w' rfl
      exact this)
     rwa [hlit] at key
    |false =>
     simp only [hD,Bool.not_false] at e
     simp only [hD,Bool.false_eq_true,if_false,Bool.or_eq_true,Bool.and_eq_true] at hc2
     obtain⟨b,ok,β,hz,hr,hA1,hA2,hA3⟩:=h.below (drawn_below w)
     rcases hc2 with ⟨hB,hk⟩|hB
     ·refine wp_region_quiet (C:=fun W=>Below w.heap.size { w with drawn:=w.drawn+1 } W) hm hB (Below.refl _ _) ?_
      exact vcOps_quiet (w:={ w with drawn:=w.drawn+1 }) hE hyl hops [] (sv:=s.sv) (df:=a.defers) (fun kn s' a' hsv hdf _ e' h' w' hw'=>hQ s' a' w' e' ⟨b,ok,β,by rw [hsv];exact hz,h'.below hw',hA1,hA2,fun hs=>by rw [hdf];exact hA3 hs⟩) ops.toList [] s a rfl rfl (fun o ho=>⟨hopsl o ho,List.all_eq_true.1 hk o ho⟩) (hkn s) (by rw [List.append_nil];exact e) hr
     ·obtain⟨m,hm2⟩:=Option.isSome_iff_exists.1 hB
      obtain⟨hB1,hB2⟩:=splitOf_some hm2
      have key:=wp_region_quiet_tail (P:=P) (id:=id) (Q:=Q) (a:=a) (w:=w) (l:=ops.toList) (C:=fun W=>Below w.heap.size { w with drawn:=w.drawn+1 } W) m hm (by rw [hlit];exact hB1) (Below.refl _ _) (by
       rw [hlit]
       refine vcOps_quiet (w:={ w with drawn:=w.drawn+1 }) (Kx:=K .normal) hE hyl hops (ops.toList.drop m) (sv:=s.sv) (df:=a.defers) (fun kn s' a' hsv hdf hk' e' h'=>?_) _ [] s a rfl rfl (fun o ho=>⟨hopsl o (List.mem_of_mem_take ho),hB2 o ho⟩) (hkn s) (by rw [List.take_append_drop];exact e) hr
       intro w' hw'
       exact vcOps_sound_wp hE hZ hyl hops hQ _ kn s' a' w' (fun o ho=>hopsl o (List.mem_of_mem_drop ho)) hk' e' ⟨b,ok,β,by rw [hsv];exact hz,h'.below hw',hA1,hA2,fun hs=>by rw [hdf];exact hA3 hs⟩)
      rwa [hlit] at key
   ·exact e.elim
end
theorem Rel.base (h:Rel G n w0 ok a w s β) {b':Base} {a':Act} (hw:b'.toWorld=w0.toWorld) (ht:a'.tmps=a.tmps) (hp:∀k o,b'.pin k=some o→ok k∧w.heap[k]? = some o)
  (hd:Marks b' a'.defers):Rel G n b' ok a' w s β:=by
 obtain⟨bw,bp,bo⟩:=b'
 obtain⟨ww,wp,wo⟩:=w0
 simp only at hw
 subst hw
 exact⟨fun t h1=>by rw [ht];exact h.fr t h1,by rw [ht];exact h.size,hd,h.heap,h.ext,h.oklt,h.sv,hp⟩
theorem Rel.turnPin (h:Rel G n w0 ok a w s β) {l:Nat} {o o':Obj} (hl:w.heap[l]? = some o) (ho:o.isCells=false) (hlo:w0.heap.size≤l) {b':Base} {a':Act} (hw:b'.toWorld=w0.toWorld) (ht:a'.tmps=a.tmps)
  (hp:∀k x,b'.pin k=some x→(k=l∧x=o'∧ok l)∨(k≠l∧w0.pin k=some x))
  (hd:Marks b' a'.defers):Rel G n b' ok a' (w.putObj l o') s β:=by
 have hlt:l < w.heap.size:=(Array.getElem?_eq_some_iff.1 hl).1
 have hcell:∀(ad:Addr) v,w.cell? ad=some v→(w.putObj l o').cell? ad=some v:=fun ad v hc=>by
  obtain⟨x,hx,hxc⟩:=cells_of_cell hc
  have hne:ad.block≠l:=fun e=>by rw [e,hl] at hx;cases hx;rw [ho] at hxc;cases hxc
  rw [World.cell?] at hc ⊢
  rw [World.putObj_heap_other hne]
  exact hc
 have hL:Later ok ok w (w.putObj l o') s.H s.H β β s.nx s.nx:=⟨Nat.le_refl _,fun _ h=>h,fun ad v _ hc=>hcell ad v hc,fun id st b' _ e=>⟨b',e,rfl,rfl,rfl⟩⟩
 have hpp:∀k x,b'.pin k=some x→ok k∧(w.putObj l o').heap[k]? = some x:=by
  intro k x hk
  rcases hp k x hk with ⟨rfl,rfl,hok⟩|⟨hne,hk⟩
  ·exact⟨hok,World.putObj_heap_same hlt⟩
  ·exact⟨(h.pins k x hk).1,(World.putObj_heap_other hne).trans (h.pins k x hk).2⟩
 obtain⟨bw,bp,bo⟩:=b'
 obtain⟨ww,wp,wo⟩:=w0
 simp only at hw
 subst hw
 refine⟨fun t h2=>by rw [ht];exact(h.fr t h2).later hL,by rw [ht];exact h.size,hd,⟨h.heap.stl,fun id b e=>?_,h.heap.inj,h.heap.notok⟩,h.ext.grown (grownBy_putObj' w l o') h.ext.size (fun k e=>by cases e;exact hlo),fun k hk=>by rw [World.putObj_size];exact h.oklt k hk,all2_mono (fun f tm hf t ht=>(hf t ht).later hL) h.sv,hpp⟩
 obtain⟨xs,h1,h2,hb1,hb2,h3⟩:=h.heap.own id b e
 refine⟨xs,ownsRow_putObj h1 o' hl ho,h2,hb1,hb2,fun i f p hi hp=>?_⟩
 obtain⟨u,e1,e2,e3⟩:=h3 i f p hi hp
 exact⟨u,e1,e2.later hL,fun hx=>(e3 hx).later hL.oks hL.cell⟩
end
end Go.Ex
namespace Go.Ex
open Go Go.RowKit
section
variable {P:Program} {E:Env} {G:List (Array Value)} {n:Nat} {w0:Base} {ok A:Nat→Prop} {a:Act} {w:World} {s:St} {β : Nat→Value} {o:Oper}
theorem calleeOf_sound (h:Rel G n w0 ok a w s β) {x:Operand} (hx:opdOk n x=true) {f':FuncId} {pre post:List PV} (hf:calleeOf s x=some (f',pre,post)) :
  ∃us vs,a.eval x=.func (.func f') us vs∧pre.length=us.size∧post.length=vs.size∧∀(i:Nat) p u,post[i]? = some p→vs[i]? = some u→R ok w s.H β s.nx p u:=by
 have hx:=h.ev hx
 unfold calleeOf at hf
 split at hf
 ·rename_i k first caps hp
  simp only [Option.some.injEq,Prod.mk.injEq] at hf
  obtain⟨rfl,rfl,rfl⟩:=hf
  rw [hp] at hx
  refine⟨first,caps,hx.val_eq,by simp,by simp,fun i p u hp hu=>?_⟩
  simp only [List.getElem?_map,Array.getElem?_toList,hu,Option.map_some,Option.some.injEq] at hp
  rw [←hp];exact .val _
 ·rename_i k first caps hp
  simp only [Option.some.injEq,Prod.mk.injEq] at hf
  obtain⟨rfl,rfl,rfl⟩:=hf
  rw [hp] at hx
  obtain⟨us,vs,e1,l1,l2,h1,h2⟩:=hx.fn_inv
  exact⟨us,vs,e1,l1,l2,h2⟩
 ·simp at hf
theorem foldl_size:∀(l:List (Tmp×Value)) (t:Array Value),(l.foldl (fun t (x:Tmp×Value)=>t.setIfInBounds x.1 x.2) t).size=t.size
 |[],t=>rfl
 |x::l,t=>by rw [List.foldl_cons,foldl_size l];simp
theorem updL_get {ok:Nat→Prop} {w:World} {H:Heap} {β : Nat→Value} {nx:Nat}:∀(ps:List Tmp) (xs:List PV) (vs:List Value) (fr:Nat→PV) (t:Array Value),xs.length=ps.length→vs.length=ps.length→(∀(j:Nat) p v,xs[j]? = some p→vs[j]? = some v→R ok w H β nx p v) →
  (∀k,k < t.size→R ok w H β nx (fr k) (t.getD k undef))→∀k,k < t.size→R ok w H β nx (updL ps xs fr k) (((ps.zip vs).foldl (fun t (x:Tmp×Value)=>t.setIfInBounds x.1 x.2) t).getD k undef)
 |[],[],[],fr,t,_,_,_,h,k,hk=>by simpa [updL] using h k hk
 |p::ps,x::xs,v::vs,fr,t,l1,l2,hR,h,k,hk=>by
  simp only [updL,List.zip_cons_cons,List.foldl_cons]
  refine updL_get ps xs vs (upd fr p x) (t.setIfInBounds p v) (by simpa using l1) (by simpa using l2) (fun j q u hq hu=>hR (j+1) q u (by simpa using hq) (by simpa using hu)) (fun i hi=>?_) k (by simpa using hk)
  have hi':i < t.size:=by simpa using hi
  by_cases e:i=p
  ·subst e
   simp only [upd_self,Array.getD_eq_getD_getElem?,Array.getElem?_setIfInBounds_self]
   rw [if_pos hi']
   exact hR 0 x v (by simp) (by simp)
  ·have:=h i hi'
   simp only [upd_ne e,Array.getD_eq_getD_getElem?]
   rw [Array.getElem?_setIfInBounds_ne (Ne.symm e)]
   simpa [Array.getD_eq_getD_getElem?] using this
theorem Rel.enter (h:Rel G n w0 ok a w s β) {ps:Array Tmp} {xs:List PV} {vs:Array Value} (l1:xs.length=ps.size) (l2:vs.size=ps.size) (hR:∀(j:Nat) p v,xs[j]? = some p→vs[j]? = some v→R ok w s.H β s.nx p v) :
  Rel (a.tmps::G) n w0 ok { tmps:=(ps.zip vs).foldl (fun t (x:Tmp×Value)=>t.setIfInBounds x.1 x.2) a.tmps,defers:=[] } w (enterS ps.toList xs s) β:=by
 obtain⟨fr,H,nx,sv⟩:=s
 have hf:(ps.zip vs).foldl (fun t (x:Tmp×Value)=>t.setIfInBounds x.1 x.2) a.tmps=(ps.toList.zip vs.toList).foldl (fun t (x:Tmp×Value)=>t.setIfInBounds x.1 x.2) a.tmps:=by
  rw [←Array.foldl_toList,Array.toList_zip]
 rw [hf]
 have hsz:=h.size
 refine⟨fun t ht=>?_,by rw [foldl_size];exact h.size,Marks.nil _,h.heap,h.ext,h.oklt,⟨fun t ht=>h.fr t (by rw [←hsz];exact ht),h.sv⟩,h.pins⟩
 exact updL_get ps.toList xs vs.toList fr a.tmps (by simpa using l1) (by simpa using l2) (fun j p v hp hv=>hR j p v hp (by simpa using hv)) (fun k hk=>h.fr k (by rw [←hsz];exact hk)) t (by rw [hsz];exact ht)
theorem Rel.leave {tm:Array Value} {f0 fr:Nat→PV} {H:Heap} {nx:Nat} {sv:List (Nat→PV)} (h:Rel (tm::G) n w0 ok a w ⟨f0,H,nx,fr::sv⟩ β) {a':Act} (ht:a'.tmps=tm) (hsz:tm.size=n)
  (hd:Marks w0 a'.defers):Rel G n w0 ok a' w ⟨fr,H,nx,sv⟩ β :=
 ⟨fun t h1=>by rw [ht];exact h.sv.1 t (by rw [hsz];exact h1),by rw [ht];exact hsz,hd,h.heap,h.ext,h.oklt,h.sv.2,h.pins⟩
theorem range_sound {Z:List (Nat→PV)→Base→Prop} (hE:EnvOk P E) (hZ:ZOk Z) {D:Opt} (hst:E.strict=false) {g:Operand} {ps:Array Tmp} {x b:Code} (hg:opdOk n g=true)
  (ihx:∀(l:Nat) (Z':List (Nat→PV)→Base→Prop) (G':List (Array Value)) (s:St) (K:Exit→St→Prop) (a:Act) (w:World) (Q:Exit→Act→World→Prop),ZOk Z'→vc P E.noYield D.inRound x s K→Sim false Z' G' n A a w s →
   (∀e s' a' w',K e s'→Sim false Z' G' n A a' w' s'→Q e a' w')→x.wpIn (FW (some l)) 0 P Q a w)
  (ihb:∀(l:Nat) (Z':List (Nat→PV)→Base→Prop) (G':List (Array Value)) (s:St) (K:Exit→St→Prop) (a:Act) (w:World) (Q:Exit→Act→World→Prop),ZOk Z'→vc P E.noYield D.inRound b s K→Sim false Z' G' n A a w s →
   (∀e s' a' w',K e s'→Sim false Z' G' n A a' w' s'→Q e a' w')→b.wpIn (FW (some l)) 0 P Q a w)
  {K:Exit→St→Prop} {Q:Exit→Act→World→Prop} (e:vc P E D (.rangeFunc g ps x b) s K) (h:Sim false Z G n A a w s) (hQ:∀e s' a' w',K e s'→Sim false Z G n A a' w' s'→Q e a' w'):(Code.rangeFunc g ps x b).wpIn Fence.wide 0 P Q a w:=by
 classical
 obtain⟨call,own,inl,seq,yl,strict⟩:=E
 simp only at hst
 subst hst
 change vcRange g ps (fun E D s K=>vc P E D x s K) (fun E D s K=>vc P E D b s K) _ D s K at e
 unfold vcRange at e
 split at e
 ·rename_i f caps hdr _ hcal
  split at e
  ·rename_i ds hds hre
   split at e
   ·rename_i q hq
    obtain⟨hpre,α,I,S,⟨y0,σ0,hI0,hw0⟩,hrd,hdn⟩:=need_iff.1 e
    obtain⟨b0,ok,β,hz,hr0,hA1,hA2,_⟩:=h
    obtain⟨us,lb,hev,hus,hlb,hcR⟩:=calleeOf_sound hr0 hg hcal
    obtain rfl:us = #[]:=by simpa using hus.symm
    obtain⟨hent,hseq⟩:=hE.2.2 f ds q hq
    obtain⟨m1,m2⟩:=mapO_some hds
    have hsize:=hr0.ext.size
    obtain⟨l,hl⟩:∃l,l=w.heap.size+1:=⟨_,rfl⟩
    obtain⟨D0,hD0⟩:∃D0,D0=w.heap.size:=⟨_,rfl⟩
    have hlD:l≠D0:=by omega
    have hokl:¬ok l:=fun hk=>by have:=hr0.oklt l hk;omega
    have hokD:¬ok D0:=fun hk=>by have:=hr0.oklt D0 hk;omega
    refine wpIn_rangeFunc ?_
    intro fn _
    let rec':LoopState→Option Code→Loop:=fun st pe=>{ state:=st,pending:=pe,fn,tmps:=a.tmps,params:=ps,assign:=x,body:=b,defers:=w.heap.size }
    let pinR:LoopState→Option Code→Nat→Option Obj:=fun st pe k=>if k=l then some (.loop (rec' st pe)) else if k=D0 then some (.deferred (some [])) else if ok k then w.heap[k]? else none
    have pinl:∀st pe,pinR st pe l=some (.loop (rec' st pe)):=fun st pe=>by simp [pinR]
    have pinD:∀st pe,pinR st pe D0=some (.deferred (some [])):=fun st pe=>by simp [pinR,Ne.symm hlD]
    have pink:∀st pe k,ok k→pinR st pe k=w.heap[k]?:=fun st pe k hk=>by
     have h1:k≠l:=fun e=>hokl (e▸hk)
     have h2:k≠D0:=fun e=>hokD (e▸hk)
     simp [pinR,h1,h2,hk]
    have pininv:∀st pe k o,pinR st pe k=some o→(k=l∧o=.loop (rec' st pe))∨(k≠l∧((k=D0∧o=.deferred (some []))∨(k≠D0∧ok k∧w.heap[k]? = some o))):=by
     intro st pe k o hk
     simp only [pinR] at hk
     split at hk
     ·rename_i h1;cases hk;exact .inl ⟨h1,rfl⟩
     ·rename_i h1
      split at hk
      ·rename_i h2;cases hk;exact .inr ⟨h1,.inl ⟨h2,rfl⟩⟩
      ·rename_i h2
       split at hk
       ·rename_i h3;exact .inr ⟨h1,.inr ⟨h2,h3,hk⟩⟩
       ·cases hk
    have pinsame:∀st pe st' pe' k o,k≠l→pinR st pe k=some o→pinR st' pe' k=some o:=by
     intro st pe st' pe' k o hk ho
     simp only [pinR,hk,if_false] at ho ⊢
     exact ho
    have pin0:∀st pe k o,b0.pin k=some o→pinR st pe k=some o:=fun st pe k o hk=>by
     obtain⟨h1,h2⟩:=hr0.pins k o hk
     rw [pink st pe k h1,h2]
    have oldD:b0.old D0=none:=by
     cases ho:b0.old D0 with
     |none=>rfl
     |some o=>exact(hokD (hr0.pins D0 o (hZ.old _ _ hz D0 o ho)).1).elim
    let bR:LoopState→Option Code→Base:=fun st pe=>⟨b0.toWorld,pinR st pe,b0.old⟩
    let a1:Act:={ a with defers:=[{ target:=.collected D0,args:=#[] }]++a.defers }
    have ha1:∀(b':Base),b'.toWorld=b0.toWorld→b'.old=b0.old→b'.pin D0=some (.deferred (some []))→(∀k o,b0.pin k=some o→b'.pin k=some o)→Marks b' a1.defers:=by
     intro b' h1 h2 h3D h3
     refine⟨List.nodup_cons.2 ⟨fun hd=>?_,hr0.defers.1⟩,fun d hd=>?_⟩
     ·obtain⟨D,e1,e2,_⟩:=hr0.defers.2 _ hd
      cases e1
      exact hokD (hr0.pins D0 _ e2).1
     rw [h1,h2]
     simp only [a1,List.singleton_append,List.mem_cons] at hd
     rcases hd with rfl|hd
     ·exact⟨D0,rfl,h3D,by omega,oldD⟩
     ·obtain⟨D,e1,e2,e3,e4⟩:=hr0.defers.2 d hd
      exact⟨D,e1,h3 D _ e2,e3,e4⟩
    let J:Nat→World→Prop:=fun i W=>∃(y : α) (okx:Nat→Prop) (βx:Nat→Value),I i y∧Z (S y).sv b0∧Rel G n (bR .ready none) okx a1 W (S y) βx∧(∀k,A k→okx k)∧∀k,okx k→A k∨b0.heap.size≤k
    let Jx:World→Prop:=fun W=>∃(c:Code) (e:Exit) (s':St) (okx:Nat→Prop) (βx:Nat→Value),K e s'∧((e=.ret∧c=.ret)∨∃j,e=.exit j∧c=.exit j)∧Z s'.sv b0∧Rel G n (bR .done (some c)) okx a1 W s' βx∧(∀k,A k→okx k)∧∀k,okx k→A k∨b0.heap.size≤k
    obtain⟨W1,hW1⟩:∃W1,(w.alloc (.deferred (some []))).alloc (.loop (rec' .ready none))=W1:=⟨_,rfl⟩
    have hb1:Below w.heap.size w W1:=by rw [←hW1];exact((Below.refl _ w).alloc (Nat.le_refl _) _).alloc (by simp) _
    have hW1l:W1.heap[l]? = some (.loop (rec' .ready none)):=by
     rw [←hW1,hl];have:=World.alloc_heap_new (w.alloc (.deferred (some []))) (.loop (rec' .ready none));rwa [World.size_alloc] at this
    have hW1D:W1.heap[D0]? = some (.deferred (some [])):=by
     rw [←hW1,hD0];exact(Below.heap_alloc _ _ _ (by simp)).trans (World.alloc_heap_new w _)
    have hW1s:W1.heap.size=w.heap.size+2:=by rw [←hW1];simp
    have hJ0:J 0 W1:=by
     have h1:=hr0.weak hw0
     obtain⟨h2,_⟩:=h1.widen hb1 (fun k=>k=l∨k=D0) (fun k hk=>by omega)
     refine⟨y0,_,_,hI0,hZ.weak _ _ _ hw0.sv hz,h2.base rfl rfl (fun k o hk=>?_) (ha1 _ rfl rfl (pinD _ _) fun k o hk=>pin0 _ _ _ _ hk),fun k hk=>.inl (.inl (hA1 k hk)),fun k hk=>?_⟩
     ·rcases pininv _ _ k o hk with ⟨rfl,rfl⟩|⟨_,⟨rfl,rfl⟩|⟨_,h3,h4⟩⟩
      ·exact⟨.inr (.inl rfl),hW1l⟩
      ·exact⟨.inr (.inr rfl),hW1D⟩
      ·exact⟨.inl (.inl h3),(hb1.block k (hr0.oklt k h3)).trans h4⟩
     ·rcases hk with hk|hk
      ·exact(okW_base hr0 k hk).elim (fun hk=>(hA2 k hk).imp id And.right) .inr
      ·exact .inr (by omega)
    have hJb:∀i W W',J i W→Below W.heap.size W W'→J i W':=fun i W W' ⟨y,okx,βx,h1,h2,h3,h4⟩ hb=>⟨y,okx,βx,h1,h2,h3.below hb,h4⟩
    have hJxb:∀W W',Jx W→Below W.heap.size W W'→Jx W':=fun W W' ⟨c,e,s',okx,βx,h1,h2,h3,h4,h5⟩ hb=>⟨c,e,s',okx,βx,h1,h2,h3,h4.below hb,h5⟩
    have harg:∀(i:Nat) p v,ds[i]? = some p→lb[i]? = some v→R0 ok W1 p v:=by
     intro i p v hp hv
     obtain⟨y,e1,e2⟩:=m2 i p hp
     have:=deep_sound (A:=ok) hr0.heap (fun _ h=>h) 4 y p v (hcR i y v e1 hv) e2 fun id hid hlt k hk=>by
      have:id∈caps.flatMap (reach s.H 4):=List.mem_flatMap.2 ⟨y,List.mem_of_getElem? e1,hid⟩
      rw [hre] at this
      cases this
     exact this.later (fun _ h=>h) (fun ad v hk hc=>by rw [hb1.cell (hr0.oklt _ hk)];exact hc)
    have hlb':ds.length=lb.size:=by rw [m1];exact hlb
    refine⟨l,[{ target:=.collected D0,args:=#[] }],W1,{ target:=.fn (.func f) lb,args:=#[.func (.yield l) #[] #[]] },W1,f,#[.func (.yield l) #[] #[]]++lb,W1,?_,?_,fun _ _=>trivial,?_,fun h=>(by simp [Fence.wide] at h),?_⟩
    ·rw [←hW1,hl,hD0];exact run_enterLoop_outer _ _ _ _ _
    ·simp only [resolve,hev]
     simp [go_sem]
    ·simp [invoke,go_sem,hent]
    ·refine(hseq hpre ok W1 lb l J Jx (fun k hk=>by have:=hr0.oklt k hk;omega) hlb' harg hJb hJxb ?_ hJ0).mono ?_
     ·
      rintro i W vs hi ⟨y,okx,βx,hIy,hzy,hr,hx1,hx2⟩ hlen hR0
      have hlW:=(hr.pins l _ (pinl _ _)).2
      obtain⟨hps,hv⟩:=hrd i y hi hIy
      have hok:∀k,ok k→okx k:=fun k hk=>by
       have h1:k < w.heap.size:=hr0.oklt k hk
       have h2:w.heap[k]? = some w.heap[k]:=by simp [h1]
       exact(hr.pins k _ ((pink .ready none k hk).trans h2)).1
      have hkeep:∀k,ok k→W.heap[k]? = w.heap[k]?:=fun k hk=>by
       have h1:k < w.heap.size:=hr0.oklt k hk
       have h2:w.heap[k]? = some w.heap[k]:=by simp [h1]
       rw [h2]
       exact(hr.pins k _ ((pink .ready none k hk).trans h2)).2
      let Zr:LoopState→List (Nat→PV)→Base→Prop:=fun st sv b'=>∃f r,sv=f::r∧b'.toWorld=b0.toWorld∧b'.old=b0.old∧(∀k o,pinR st none k=some o→b'.pin k=some o)∧Z r b0
      have hZr:∀st,ZOk (Zr st):=fun st=>by
       refine⟨?_,?_,?_⟩
       ·rintro sv sv' b' hall ⟨f,r,rfl,h1,h2,h3,h4⟩
        cases sv' with
        |nil=>exact hall.elim
        |cons f' r'=>exact⟨f',r',rfl,h1,h2,h3,hZ.weak _ _ _ hall.2 h4⟩
       ·rintro sv b1 b2 e1 e2 e3 ⟨f,r,rfl,h1,h2,h3,h4⟩
        exact⟨f,r,rfl,e1.trans h1,e2.trans h2,fun k o hk=>e3 k o (h3 k o hk),h4⟩
       ·rintro sv b1 ⟨f,r,rfl,h1,h2,h3,h4⟩ k o hk
        rw [h2] at hk
        exact h3 k o (pin0 _ _ _ _ (hZ.old _ _ hz k o hk))
      have hvs:vs.size=ps.size:=by rw [←hlen];exact hps
      have hy:=run_yield (P:=P) (args:=vs) hlW hvs
      refine⟨fn,_,x,b,hy,roundIn_of_wpIn trivial ?_⟩
      refine ihx l (Zr .ready) (a.tmps::G) (enterS ps.toList (q.xs i) (S y)) _ _ W _ (hZr _) hv ⟨bR .ready none,okx,βx,⟨(S y).fr,(S y).sv,by cases S y;rfl,rfl,rfl,fun k o hk=>hk,hzy⟩,
       Rel.enter (a:=a1) hr hps hvs (fun j p v hp hv=>.deep _ _ ((hR0 j p v hp hv).later hok fun _ _ _ h=>h)),hx1,fun k hk=>(hx2 k hk).imp id fun h=>⟨rfl,h⟩,nofun⟩ ?_
      intro e s1 a2 w1 hk hsim1
      cases e with
      |normal =>
       simp only at hk
       obtain⟨b1,ok1,β1,⟨f1,r1,hsv1,hb1w,hb1o,hb1p,hz1⟩,hr1,h1a,h1b,_⟩:=hsim1
       have hl1:=hr1.pins l _ (hb1p l _ (pinl _ _))
       refine⟨_,run_beginRound hl1.2 rfl,?_⟩
       let b2:Base:=⟨b1.toWorld,fun k=>if k=l then some (.loop (rec' .busy none)) else b1.pin k,b1.old⟩
       have hr2:Rel (a.tmps::G) n b2 ok1 a2 (w1.putObj l (.loop (rec' .busy none))) s1 β1:=by
        refine hr1.turnPin hl1.2 rfl (by rw [hb1w];omega) rfl rfl (fun k o hk=>?_) ⟨hr1.defers.1,fun d hd=>?_⟩
        ·simp only [b2] at hk
         split at hk
         ·rename_i h1;cases hk;exact .inl ⟨h1,rfl,hl1.1⟩
         ·rename_i h1;exact .inr ⟨h1,hk⟩
        ·obtain⟨D,e1,e2,e3,e4⟩:=hr1.defers.2 d hd
         have hne:D≠l:=fun e=>by
          have:=hb1p l _ (pinl _ _)
          rw [←e,e2] at this
          cases this
         exact⟨D,e1,by simp [b2,hne,e2],e3,e4⟩
       refine ihb l (Zr .busy) (a.tmps::G) s1 _ a2 _ _ (hZr _) hk ⟨b2,ok1,β1,⟨f1,r1,hsv1,hb1w,hb1o,fun k o hk=>?_,hz1⟩,hr2,h1a,h1b,nofun⟩ ?_
       ·simp only [b2]
        split
        ·rename_i h1;subst h1;rw [←hk];exact(pinl _ _).symm
        ·rename_i h1;exact hb1p k o (pinsame _ _ _ _ k o h1 hk)
       intro e s2 a3 w2 hk2 hsim2
       obtain⟨f0,H,nx,sv0⟩:=s2
       obtain⟨b3,ok3,β3,⟨fr,sv,hsv3,hb3w,hb3o,hb3p,hz3⟩,hr3,h3a,h3b,_⟩:=hsim2
       simp only at hsv3
       subst hsv3
       simp only at hk2
       have hl3:=hr3.pins l _ (hb3p l _ (pinl _ _))
       have hsz:a.tmps.size=n:=hr0.size
       have ha3:=ha1 b3 hb3w hb3o (hb3p D0 _ (pinD _ _)) fun k o hk=>hb3p k o (pin0 _ _ _ _ hk)
       have hlv:Rel G n b3 ok3 a1 w2 ⟨fr,H,nx,sv⟩ β3:=hr3.leave rfl hsz ha3
       have hb3s:b3.heap.size=b0.heap.size:=by rw [hb3w]
       have turn:∀(st:LoopState) (pe:Option Code),Rel G n (bR st pe) ok3 a1 (w2.putObj l (.loop (rec' st pe))) ⟨fr,H,nx,sv⟩ β3:=fun st pe=>by
        refine hlv.turnPin hl3.2 rfl (by rw [hb3s];omega) hb3w.symm rfl (fun k o hk=>?_) (ha1 _ rfl rfl (pinD _ _) fun k o hk=>pin0 _ _ _ _ hk)
        rcases pininv _ _ k o hk with ⟨rfl,rfl⟩|⟨h1,_⟩
        ·exact .inl ⟨rfl,rfl,hl3.1⟩
        ·exact .inr ⟨h1,hb3p k o (pinsame _ _ _ _ k o h1 hk)⟩
       have keep:∀o,KeepA ok W (w2.putObj l o):=fun o k hk=>by
        have h1:k < w.heap.size:=hr0.oklt k hk
        have h2:w.heap[k]? = some w.heap[k]:=by simp [h1]
        have hne:k≠l:=fun e=>hokl (e▸hk)
        rw [World.putObj_heap_other hne,hkeep k hk,h2]
        exact(hr3.pins k _ (hb3p k _ ((pink .busy none k hk).trans h2))).2
       have end3:∀k,ok3 k→A k∨b0.heap.size≤k:=fun k hk=>(h3b k hk).imp id fun h=>by rw [←hb3s];exact h.2
       cases e with
       |normal =>
        obtain⟨z,σ,hIz,hwz⟩:=hk2
        have ht:=turn .ready none
        exact⟨_,_,run_endRound none hl3.2,.inl ⟨rfl,z,_,_,hIz,hZ.weak _ _ _ hwz.sv hz3,ht.weak hwz,fun k hk=>.inl (h3a k hk),fun k hk=>(okW_base ht k hk).elim (end3 k) .inr⟩,keep _⟩
       |ret=>exact⟨_,_,run_endRound (some .ret) hl3.2,.inr ⟨rfl,.ret,.ret,_,_,_,hk2,.inl ⟨rfl,rfl⟩,hz3,turn .done (some .ret),h3a,end3⟩,keep _⟩
       |exit j=>exact⟨_,_,run_endRound (some (.exit j)) hl3.2,.inr ⟨rfl,.exit j,.exit j,_,_,_,hk2,.inr ⟨j,rfl,rfl⟩,hz3,turn .done (some (.exit j)),h3a,end3⟩,keep _⟩
       |_=>exact hk2.elim
      |_=>exact hk.elim
     ·
      rintro e W' ⟨⟨v,rfl⟩,hend⟩
      let bF:Base:=⟨b0.toWorld,fun k=>if k=D0 then some (.deferred (some [])) else b0.pin k,b0.old⟩
      have hzF:∀sv,Z sv b0→Z sv bF:=fun sv hz'=>hZ.up sv b0 bF rfl rfl (fun k o hk=>by
       have:k≠D0:=fun e=>hokD (e▸(hr0.pins k o hk).1)
       simp [bF,this,hk]) hz'
      have fin:∀(st:LoopState) (pe:Option Code) (s':St) (okx:Nat→Prop) (βx:Nat→Value),st≠.busy→Rel G n (bR st pe) okx a1 W' s' βx→(Instr.endLoop l).run P W'=.ok pe (W'.putObj l (.loop { rec' st pe with state:=.exhausted }))∧Rel G n bF okx a1 (W'.putObj l (.loop { rec' st pe with state:=.exhausted })) s' βx:=fun st pe s' okx βx hne hr=>by
       have hlW:=(hr.pins l _ (pinl _ _)).2
       refine⟨run_endLoop hlW hne,hr.turnPin hlW rfl (show b0.heap.size≤l by omega) rfl rfl (fun k o hk=>?_) (ha1 _ rfl rfl (if_pos rfl) fun k o hk=>?_)⟩
       ·simp only [bF] at hk
        split at hk
        ·rename_i h1;cases hk;subst h1;exact .inr ⟨Ne.symm hlD,pinD _ _⟩
        ·exact .inr ⟨fun e=>hokl (e▸(hr0.pins k o hk).1),pin0 _ _ _ _ hk⟩
       ·have:k≠D0:=fun e=>hokD (e▸(hr0.pins k o hk).1)
        simp [bF,this,hk]
      rcases hend with ⟨y,okx,βx,hIy,hzy,hr,hx1,hx2⟩|⟨c,e,s',okx,βx,hk,hce,hzs,hr,hx1,hx2⟩
      ·obtain⟨h1,h2⟩:=fin .ready none _ _ _ nofun hr
       exact⟨none,_,h1,hQ .normal (S y) a1 _ (hdn y hIy) ⟨bF,okx,βx,hzF _ hzy,h2,hx1,fun k hk=>(hx2 k hk).imp id fun h=>⟨rfl,h⟩,nofun⟩⟩
      ·obtain⟨h1,h2⟩:=fin .done (some c) _ _ _ nofun hr
       have hs:Sim false Z G n A a1 (W'.putObj l (.loop { rec' .done (some c) with state:=.exhausted })) s':=⟨bF,okx,βx,hzF _ hzs,h2,hx1,fun k hk=>(hx2 k hk).imp id fun h=>⟨rfl,h⟩,nofun⟩
       refine⟨some c,_,h1,?_⟩
       rcases hce with ⟨rfl,rfl⟩|⟨j,rfl,rfl⟩
       ·exact wpIn_ret (hQ _ _ _ _ hk hs)
       ·exact wpIn_exit (hQ _ _ _ _ hk hs)
   ·exact e.elim
  ·exact e.elim
 ·exact e.elim
end
end Go.Ex
namespace Go.Ex
open Go Go.RowKit
section
variable {P:Program}
theorem weak_cut {st:Bool} {Z:List (Nat→PV)→Base→Prop} {G:List (Array Value)} {n:Nat} {A:Nat→Prop} {a:Act} {w:World} {s:St} {E:Env} (hst:E.strict=st) (hZ:ZOk Z) (h:Sim st Z G n A a w s) {σ : Ren} {s':St} (hw:Weak σ (E.cut s) s'):Sim st Z G n A a w s':=by
 subst hst
 exact h.weak hZ hw
theorem vc_sound (hm:P.follows .mixedOrders=true):∀(c:Code) (E:Env) (D:Opt) (rd:Option Nat) (Z:List (Nat→PV)→Base→Prop) (G:List (Array Value)) (n:Nat) (A:Nat→Prop),EnvOk P E→ZOk Z→YOk P E Z G A→(D.round=false→rd=none) →
  ∀(s:St) (K:Exit→St→Prop) (a:Act) (w:World) (Q:Exit→Act→World→Prop),codeOk D.toOrd n c=true→vc P E D c s K→Sim E.strict Z G n A a w s →
  (∀e s' a' w',K e s'→Sim E.strict Z G n A a' w' s'→Q e a' w')→c.wpIn (FW rd) 0 P Q a w:=by
 intro c
 induction c with
 |skip=>intro E D rd Z G n A hE hZ hY hrd s K a w Q _ e h hQ;exact wpIn_skip (hQ _ _ _ _ e h)
 |region id ops draw=>intro E D rd Z G n A hE hZ hY hrd s K a w Q hc e h hQ;exact region_sound hm hE hZ hY hrd hc e h fun s' a' w'=>hQ .normal s' a' w'
 |seq x y ihx ihy =>
  intro E D rd Z G n A hE hZ hY hrd s K a w Q hc e h hQ
  simp only [codeOk,Bool.and_eq_true] at hc
  change vcSeq2 x (fun E D s K=>vc P E D x s K) (fun E D s K=>vc P E D y s K) E D s K at e
  unfold vcSeq2 at e
  split at e
  ·obtain⟨α,I,S,e1,e2⟩:=e
   refine wpIn_seq (ihx E D rd Z G n A hE hZ hY hrd s _ a w _ hc.1 e1 h fun e s' a' w' hk h'=>?_)
   cases e with
   |normal =>
    obtain⟨y,σ,hy,hw⟩:=hk
    exact ihy E D rd Z G n A hE hZ hY hrd _ K a' w' Q hc.2 (e2 y hy) (weak_cut rfl hZ h' hw) hQ
   |_=>exact hQ _ _ _ _ hk h'
  ·refine wpIn_seq (ihx E D rd Z G n A hE hZ hY hrd s _ a w _ hc.1 e h fun e s' a' w' hk h'=>?_)
   cases e with
   |normal=>exact ihy E D rd Z G n A hE hZ hY hrd _ K a' w' Q hc.2 hk h' hQ
   |_=>exact hQ _ _ _ _ hk h'
 |cond c x y ihx ihy =>
  intro E D rd Z G n A hE hZ hY hrd s K a w Q hc e h hQ
  simp only [codeOk,Bool.and_eq_true] at hc
  change vcCond c (fun E D s K=>vc P E D x s K) (fun E D s K=>vc P E D y s K) E D s K at e
  unfold vcCond at e
  split at e
  ·rename_i t ht
   have hv:a.eval c=.bool t:=by
    obtain⟨b,ok,β,_,h,_⟩:=h
    exact h.evv hc.1.1 ht
   refine wpIn_cond hv ?_
   cases t
   ·exact ihy E D rd Z G n A hE hZ hY hrd s K a w Q hc.2 (e.2 rfl) h hQ
   ·exact ihx E D rd Z G n A hE hZ hY hrd s K a w Q hc.1.2 (e.1 rfl) h hQ
  ·exact e.elim
 |block id b ih =>
  intro E D rd Z G n A hE hZ hY hrd s K a w Q hc e h hQ
  simp only [codeOk] at hc
  change vcBlock id (fun E D s K=>vc P E D b s K) E D s K at e
  unfold vcBlock at e
  refine wpIn_block (ih E D rd Z G n A hE hZ hY hrd s _ a w _ hc e h fun e1 s' a' w' hk h'=>?_)
  cases e1 with
  |exit j =>
   simp only [Exit.inBlock]
   simp only at hk
   split
   ·rename_i hj;simp only [hj,beq_self_eq_true,cond_true] at hk;exact hQ _ _ _ _ hk h'
   ·rename_i hj
    have:(j==id)=false:=by simpa using hj
    simp only [this,cond_false] at hk;exact hQ _ _ _ _ hk h'
  |_=>exact hQ _ _ _ _ hk h'
 |loop b ih =>
  intro E D rd Z G n A hE hZ hY hrd s K a w Q hc e h hQ
  simp only [codeOk] at hc
  change vcLoop (fun E D s K=>vc P E D b s K) E D s K at e
  unfold vcLoop at e
  obtain⟨α,I,S,μ,⟨x,σ,hx,hw⟩,e⟩:=e
  have key:∀(m:Nat) (x : α) (a:Act) (w:World),I x→μ x < m→Sim E.strict Z G n A a w (S x)→Code.roundsIn (FW rd) 0 P b Q m a w:=by
   intro m
   induction m with
   |zero=>intro x a w _ hm;omega
   |succ m ihm =>
    intro x a w hx hm h
    unfold Code.roundsIn
    refine ih E D rd Z G n A hE hZ hY hrd _ _ a w _ hc (e x hx) h fun e1 s' a' w' hk h'=>?_
    cases e1 with
    |normal =>
     obtain⟨y,σ,hy,hμ,hw⟩:=hk
     exact ihm y a' w' hy (by omega) (weak_cut rfl hZ h' hw)
    |_=>exact hQ _ _ _ _ hk h'
  exact wpIn_loop_rounds (μ x+1) (key (μ x+1) x a w hx (by omega) (weak_cut rfl hZ h hw))
 |exit id=>intro E D rd Z G n A hE hZ hY hrd s K a w Q _ e h hQ;exact wpIn_exit (hQ _ _ _ _ e h)
 |ret=>intro E D rd Z G n A hE hZ hY hrd s K a w Q _ e h hQ;exact wpIn_ret (hQ _ _ _ _ e h)
 |rangeFunc g ps x b ihx ihb =>
  intro E D rd Z G n A hE hZ hY hrd s K a w Q hc e h hQ
  simp only [codeOk,Bool.and_eq_true] at hc
  have hr:D.round=false:=by
   cases hr:D.round with
   |false=>rfl
   |true =>
    change vcRange g ps (fun E D s K=>vc P E D x s K) (fun E D s K=>vc P E D b s K) E D s K at e
    simp [vcRange,hr] at e
  have hs:E.strict=false:=by
   cases hs:E.strict with
   |false=>rfl
   |true =>
    change vcRange g ps (fun E D s K=>vc P E D x s K) (fun E D s K=>vc P E D b s K) E D s K at e
    simp [vcRange,hs,hr] at e
  rw [hrd hr]
  rw [hs] at h hQ
  have hE':EnvOk P E.noYield:=by cases E;exact⟨hE.1,hE.2.1,hE.2.2⟩
  have hs':E.noYield.strict=false:=by cases E;exact hs
  have hy':∀(Z':List (Nat→PV)→Base→Prop) (G':List (Array Value)),YOk P E.noYield Z' G' A:=by cases E;exact fun _ _=>nofun
  have hd':D.inRound.round=false→(some 0:Option Nat)=none:=by cases D;exact nofun
  have ho':D.inRound.toOrd=D.toOrd:=by cases D;rfl
  refine range_sound hE hZ hs hc.1.1.1 (fun l Z' G' s K a w Q hZ' e h hQ=>?_) (fun l Z' G' s K a w Q hZ' e h hQ=>?_) e h hQ
  ·exact ihx E.noYield D.inRound (some l) Z' G' n A hE' hZ' (hy' Z' G') (fun h=>nomatch (hd' h)) s K a w Q (by rw [ho'];exact hc.1.2) e (by rw [hs'];exact h) (by rw [hs'];exact hQ)
  ·exact ihb E.noYield D.inRound (some l) Z' G' n A hE' hZ' (hy' Z' G') (fun h=>nomatch (hd' h)) s K a w Q (by rw [ho'];exact hc.2) e (by rw [hs'];exact h) (by rw [hs'];exact hQ)
 |_=>intro E D rd Z G n A _ _ _ _ s K a w Q _ e;exact e.elim
end
end Go.Ex
namespace Go.Ex
open Go Go.RowKit
section
variable {P:Program} {E:Env} {D:Opt} {G:List (Array Value)} {n:Nat} {w0:Base} {ok A:Nat→Prop} {a:Act} {w:World} {s:St} {β : Nat→Value} {o:Oper}
def Z0 (w:World):List (Nat→PV)→Base→Prop:=fun _ b=>b.toWorld=w∧b.old=fun _=>none
theorem Z0_ok (w:World):ZOk (Z0 w):=⟨fun _ _ _ _ h=>h,fun _ _ _ h1 h2 _ h=>⟨h1.trans h.1,h2.trans h.2⟩,fun _ _ h k o e=>by rw [h.2] at e;cases e⟩
theorem start_sim {args:List PV} {vs:Array Value} (hA:∀k,A k→k < w.heap.size) (hl:args.length=vs.size) (hR:∀(i:Nat) p v,args[i]? = some p→vs[i]? = some v→R0 A w p v) (hn:args.length≤n) :
  Sim false (Z0 w) [] n A { tmps:=vs++Array.replicate (n - vs.size) undef,defers:=[] } w (start args):=by
 refine⟨⟨w,fun _=>none,fun _=>none⟩,A,fun _=>undef,⟨rfl,rfl⟩,⟨fun t ht=>?_,by simp;omega,Marks.nil _,⟨by simp [start],by simp [start],by simp [start],by simp [start]⟩,Below.refl _ _,hA,trivial,nofun⟩,fun _ h=>h,fun _ h=>.inl h,nofun⟩
 simp only [start]
 rcases Nat.lt_or_ge t args.length with h|h
 ·have e1:args[t]? = some args[t]:=by simp [h]
  have hv:t < vs.size:=by omega
  have e2:vs[t]? = some vs[t]:=by simp [hv]
  rw [e1,Option.getD_some,Array.getD_eq_getD_getElem?,Array.getElem?_append_left hv,e2,Option.getD_some]
  exact .deep _ _ (hR t _ _ e1 e2)
 ·rw [List.getElem?_eq_none h,Option.getD_none]
  have:(vs++Array.replicate (n - vs.size) undef).getD t undef=undef:=by
   rw [Array.getD_eq_getD_getElem?,Array.getElem?_append_right (by omega)]
   simp only [Array.getElem?_replicate]
   split<;>rfl
  rw [this]
  exact .val _
def resSem (tmps:Array Value):ResultVar→Sem Value
 |.tmp t=>pure (tmps.getD t undef)
 |.cell x t=>do loadVar t (←asAddr (tmps.getD x undef))
theorem results_eq (fn:Func) (tmps:Array Value):results fn tmps=(do let vs ←fn.results.mapM (resSem tmps);pure (if h:vs.size=1 then vs[0] else .tuple vs)):=by
 unfold results
 congr 1
theorem resOne_sound (h:Rel G n w0 ok a w s β) {x:ResultVar} (hx:(match x with | .tmp t=>decide (t < n) | .cell t _=>decide (t < n))=true) {p:PV} (e:resOne P s x=some p) :
  ∃v,(resSem a.tmps x).run P w=.ok v w∧R ok w s.H β s.nx p v:=by
 cases x with
 |tmp t =>
  simp only [resOne,Option.some.injEq] at e
  subst e
  exact⟨_,rfl,h.fr t (by simpa using hx)⟩
 |cell t ty =>
  simp only [resOne] at e
  split at e
  ·rename_i id st i f hp
   simp only [Option.bind_eq_some_iff] at e
   obtain⟨b,hb,e⟩:=e
   have hR:=h.fr t (by simpa using hx)
   rw [hp] at hR
   obtain⟨g,c,e1,hi,e2⟩:=hR.ptr_inv hb
   obtain⟨u,_,hg,_,_,_,hl,h1,h2,_⟩:=h.heap.cells (blk_some hb).1 e1
   obtain⟨v,hv1,hv2⟩:=loadVar_sound (P:=P) (w:=w) (ok:=ok) (β:=β) (H:=s.H) (nx:=s.nx) (g:=g) (o:=0) w (fun i hi=>(hl i hi).1) hi u (by simpa using h1) e
   refine⟨v,?_,hv2 h2⟩
   have:=hv1 w (by simpa using h1)
   rw [Nat.zero_add] at this
   simp [resSem,asAddr,e2,this]
  ·simp at e
theorem mapM_run {α : Type} (f : α→Sem Value) (w:World):∀(l:List α) (vs:List Value),l.length=vs.length→(∀(i:Nat) x v,l[i]? = some x→vs[i]? = some v→(f x).run P w=.ok v w)→(l.mapM f).run P w=.ok vs w
 |[],[],_,_=>rfl
 |x::l,v::vs,hl,h=>by
  rw [List.mapM_cons]
  simp only [Sem.run_bind]
  rw [h 0 x v (by simp) (by simp)]
  simp only [Result.andThen_ok]
  rw [mapM_run f w l vs (by simpa using hl) fun i x v hx hv=>h (i+1) x v (by simpa using hx) (by simpa using hv)]
  rfl
 |[],_::_,hl,_=>by simp at hl
 |_::_,[],hl,_=>by simp at hl
theorem resVal_sound (h:Rel G n w0 ok a w s β) {fn:Func} (hx:(fn.results.toList.all fun r=>match r with | .tmp t=>decide (t < n) | .cell t _=>decide (t < n))=true) {p:PV} (e:resVal P s fn.results.toList=some p) :
  ∃v,(results fn a.tmps).run P w=.ok v w∧R ok w s.H β s.nx p v:=by
 have core:∀(ps:List PV),mapO (resOne P s) fn.results.toList=some ps→∃vs:List Value,ps.length=vs.length∧(fn.results.mapM (resSem a.tmps)).run P w=.ok vs.toArray w∧∀(i:Nat) p v,ps[i]? = some p→vs[i]? = some v→R ok w s.H β s.nx p v:=by
  intro ps hps
  obtain⟨m1,m2⟩:=mapO_some hps
  have hex:∀i,i < ps.length→∃v x p,fn.results.toList[i]? = some x∧ps[i]? = some p∧(resSem a.tmps x).run P w=.ok v w∧R ok w s.H β s.nx p v:=by
   intro i hi
   obtain⟨x,e1,e2⟩:=m2 i ps[i] (by simp)
   obtain⟨v,h1,h2⟩:=resOne_sound (P:=P) h (List.all_eq_true.1 hx x (List.mem_of_getElem? e1)) e2
   exact⟨v,x,_,e1,by simp,h1,h2⟩
  let g:Nat→Value:=fun i=>if hi:i < ps.length then Classical.choose (hex i hi) else undef
  refine⟨(List.range ps.length).map g,by simp,?_,fun i p v hp hv=>?_⟩
  ·have:=mapM_run (P:=P) (resSem a.tmps) w fn.results.toList ((List.range ps.length).map g) (by simp [m1]) (fun i x v hx hv=>by
    have hi:i < ps.length:=by rw [m1];exact(List.getElem?_eq_some_iff.1 hx).1
    obtain⟨x',p,e1,e2,e3,e4⟩:=Classical.choose_spec (hex i hi)
    rw [hx] at e1
    cases e1
    simp only [List.getElem?_map,List.getElem?_range hi,Option.map_some,Option.some.injEq] at hv
    rw [←hv]
    simp only [g,hi,dif_pos]
    exact e3)
   rw [←Array.toList_mapM] at this
   simp only [Sem.run_map] at this
   generalize hq:(fn.results.mapM _:Sem (Array Value)).run P w=q at this ⊢
   cases q with
   |ok x w' =>
    simp only [Result.andThen_ok,Result.ok.injEq] at this
    rw [←this.1,this.2]
   |halt=>simp at this
  ·have hi:i < ps.length:=(List.getElem?_eq_some_iff.1 hp).1
   obtain⟨x',p',e1,e2,e3,e4⟩:=Classical.choose_spec (hex i hi)
   rw [hp] at e2
   cases e2
   simp only [List.getElem?_map,List.getElem?_range hi,Option.map_some,Option.some.injEq] at hv
   rw [←hv]
   simp only [g,hi,dif_pos]
   exact e4
 unfold resVal at e
 split at e
 ·rename_i x hx1
  obtain⟨vs,l,hrun,hR⟩:=core [p] (by rw [hx1];simp [mapO,e])
  match vs,l with
  |[v],_ =>
   refine⟨v,?_,hR 0 p v (by simp) (by simp)⟩
   rw [results_eq]
   simp [hrun]
 ·rename_i hne
  simp only [Option.map_eq_some_iff] at e
  obtain⟨ps,hps,rfl⟩:=e
  obtain⟨vs,l,hrun,hR⟩:=core ps hps
  have hlen:vs.length≠1:=by
   intro h1
   obtain⟨m1,_⟩:=mapO_some hps
   have:fn.results.toList.length=1:=by omega
   match hr:fn.results.toList,this with
   |[x],_=>exact hne x hr
  refine⟨.tuple vs.toArray,?_,.tup _ _ (by simpa using l) fun i p u hp hu=>hR i p u hp (by simpa using hu)⟩
  rw [results_eq]
  simp [hrun,hlen]
structure AccOk (H:Heap) (x:Acc):Prop where
 len:x.ids.length=x.out.length
 nodup:x.ids.Nodup
 get:∀(i:Nat) id b',x.ids[i]? = some id→x.out[i]? = some b'→∃b st,blk H id st=some b∧b.box=false∧b'.ty=b.ty∧b'.es=b.es∧(b'.st=0∧b'.box=false∧b'.arr=false)∧b'.n≤b.n∧b'.get=b.get
def AccExt (x y:Acc):Prop:=(∃l,y.ids=x.ids++l)∧(∃l,y.out=x.out++l)∧∀j∈x.seen,j∈y.seen
theorem AccExt.refl (x:Acc):AccExt x x:=⟨⟨[],by simp⟩,⟨[],by simp⟩,fun _ h=>h⟩
theorem AccExt.trans {x y z:Acc} (h:AccExt x y) (k:AccExt y z):AccExt x z:=by
 obtain⟨⟨l1,e1⟩,⟨l2,e2⟩,e3⟩:=h
 obtain⟨⟨m1,f1⟩,⟨m2,f2⟩,f3⟩:=k
 exact⟨⟨l1++m1,by rw [f1,e1,List.append_assoc]⟩,⟨l2++m2,by rw [f2,e2,List.append_assoc]⟩,fun j hj=>f3 j (e3 j hj)⟩
def βF (β : Nat→Value) (x:Acc) (i:Nat):Value:=match x.ids[i]?,x.out[i]? with
 |some id,some b=>sub b.es 0 b.n (β id)
 |_,_=>undef
def Final (H:Heap) (x:Acc):Prop:=AccOk H x∧∀j∈x.seen,j∉x.ids
theorem sub_own {es len k:Nat} {v:Value} (h:(sub es 0 len v).ownBlock=some k):v.ownBlock=some k:=by
 unfold sub at h
 split at h
 ·rename_i a m c
  obtain⟨b,o,c⟩:=a
  simpa [Value.ownBlock,Addr.add] using h
 ·exact h
theorem sub_sub {es len:Nat} {v:Value}:sub es 0 len (sub es 0 len v)=sub es 0 len v:=by
 cases v with
 |slice a m c=>cases a with
  |none=>rfl
  |some a=>obtain⟨b,o,q⟩:=a;simp [sub,Addr.add]
 |_=>rfl
theorem final_deep (h:Rel G n w0 ok a w s β) (hA2:∀k,ok k→A k∨w0.heap.size≤k) {x:Acc} (hx:Final s.H x) {d:Nat} {p q:PV} {v:Value} (hR:R ok w s.H β s.nx p v) (e:deep s.H d p=some q)
  (hs:∀j∈reach s.H d p,j∈x.seen):R0 (okEnd A w0.heap.size w.heap.size x.out (βF β x)) w q v:=by
 have hids:∀i id,i < x.out.length→x.ids[i]? = some id→id < s.H.length:=by
  intro i id hi hid
  obtain⟨b,st,hb,_⟩:=hx.1.get i id x.out[i] hid (by simp [hi])
  exact(List.getElem?_eq_some_iff.1 (blk_some hb).1).1
 have hβ : ∀i k,i < x.out.length→(βF β x i).ownBlock=some k→∃id,x.ids[i]? = some id∧id < s.H.length∧(β id).ownBlock=some k:=by
  intro i k hi hk
  unfold βF at hk
  split at hk
  ·rename_i id b hid hb
   exact⟨id,hid,hids i id hi hid,sub_own hk⟩
  ·simp [undef,Value.ownBlock] at hk
 refine deep_sound h.heap (fun k hk=>?_) d p q v hR e fun id hid hlt k hk=>?_
 ·rcases hA2 k hk with h1|h1
  ·exact .inl h1
  ·refine .inr ⟨h1,h.oklt k hk,fun i hi hki=>?_⟩
   obtain⟨id,_,e2,e3⟩:=hβ i k hi hki
   exact h.heap.notok id k e2 e3 hk
 ·obtain⟨xs,h1,_⟩:=h.heap.own id s.H[id] (by simp [hlt])
  have:=h1.lt k hk
  refine .inr ⟨this.1,this.2,fun i hi hki=>?_⟩
  obtain⟨id',e1,e2,e3⟩:=hβ i k hi hki
  have hne:id≠id':=fun e=>hx.2 id (hs id hid) (e▸List.mem_of_getElem? e1)
  rcases h.heap.inj id id' hne hlt e2 with e|e
  ·rw [hk] at e;cases e
  ·exact e (by rw [hk,e3])
theorem final_row (h:Rel G n w0 ok a w s β) (hA2:∀k,ok k→A k∨w0.heap.size≤k) {x:Acc} (hx:Final s.H x) {q:PV} {v:Value} (hR:R0 ok w q v):R0 (okEnd A w0.heap.size w.heap.size x.out (βF β x)) w q v:=by
 refine hR.later (fun k hk=>?_) (fun _ _ _ h=>h)
 rcases hA2 k hk with h1|h1
 ·exact .inl h1
 ·refine .inr ⟨h1,h.oklt k hk,fun i hi hki=>?_⟩
  unfold βF at hki
  split at hki
  ·rename_i id b hid hb
   obtain⟨b2,st,hb2,_⟩:=hx.1.get i id b hid hb
   exact h.heap.notok id k (List.getElem?_eq_some_iff.1 (blk_some hb2).1).1 (sub_own hki) hk
  ·simp [undef,Value.ownBlock] at hki
def GoesOut (A:Nat→Prop) (w0 w:World) (s:St) (β : Nat→Value) (x:Acc) (q:PV) (v:Value):Prop :=
 ∀y,AccExt x y→Final s.H y→R (okEnd A w0.heap.size w.heap.size y.out (βF β y)) w y.out (βF β y) 1 q v
theorem expo1_sound (h:Rel G n w0 ok a w s β) (hA2:∀k,ok k→A k∨w0.heap.size≤k) {x y:Acc} {p q:PV} {v:Value} (hR:R ok w s.H β s.nx p v) (hx:AccOk s.H x) (e:expo1 s.H x p=some (y,q)) :
  AccOk s.H y∧AccExt x y∧GoesOut A w0.toWorld w s β y q v:=by
 have other:∀{y q},(deep s.H 4 p).map (fun q=>({ x with seen:=x.seen++reach s.H 4 p },q))=some (y,q)→AccOk s.H y∧AccExt x y∧GoesOut A w0.toWorld w s β y q v:=by
  intro y q e
  simp only [Option.map_eq_some_iff,Prod.mk.injEq] at e
  obtain⟨q',e1,rfl,rfl⟩:=e
  exact⟨⟨hx.len,hx.nodup,hx.get⟩,⟨⟨[],by simp⟩,⟨[],by simp⟩,fun j hj=>by simp [hj]⟩,fun z hz hf=>.deep _ _ (final_deep h hA2 hf hR e1 fun j hj=>hz.2.2 j (by simp [hj]))⟩
 unfold expo1 at e
 simp only at e
 split at e
 ·rename_i id st len
  simp only [Option.bind_eq_some_iff] at e
  obtain⟨b,hb,e⟩:=e
  split at e
  ·rename_i hc
   obtain⟨hbox,hnot⟩:=hc
   simp only [Option.some.injEq,Prod.mk.injEq] at e
   obtain⟨rfl,rfl⟩:=e
   have hnot':id∉x.ids:=fun hm=>by rw [List.contains_iff_mem.2 hm] at hnot;cases hnot
   obtain⟨e3,e4⟩:=hR.sl_inv hb
   have e3:v=sub b.es 0 len (β id):=by
    rcases e3 with e3|⟨e3,_⟩
    ·exact e3
    ·exact absurd rfl e3
   refine⟨⟨by simp [hx.len],?_,fun i id' b' h1 h2=>?_⟩,⟨⟨[id],rfl⟩,⟨_,rfl⟩,fun j hj=>hj⟩,fun z hz hf=>?_⟩
   ·rw [List.nodup_append]
    refine⟨hx.nodup,by simp,fun i hi j hj=>?_⟩
    simp only [List.mem_singleton] at hj
    subst hj
    intro e
    exact hnot' (e▸hi)
   ·rcases Nat.lt_or_ge i x.ids.length with hi|hi
    ·rw [List.getElem?_append_left hi] at h1
     rw [List.getElem?_append_left (by rw [←hx.len];exact hi)] at h2
     exact hx.get i id' b' h1 h2
    ·rw [List.getElem?_append_right hi] at h1
     rw [List.getElem?_append_right (by rw [←hx.len];exact hi)] at h2
     rw [hx.len] at h1
     cases hk:i - x.out.length with
     |succ k=>rw [hk] at h1;simp at h1
     |zero =>
      rw [hk] at h1 h2
      simp only [List.getElem?_cons_zero,Option.some.injEq] at h1 h2
      subst h1
      subst h2
      exact⟨b,st,hb,hbox,rfl,rfl,⟨rfl,rfl,rfl⟩,by simp only;omega,rfl⟩
   ·obtain⟨⟨l1,e1⟩,⟨l2,e2⟩,_⟩:=hz
    simp only at e1 e2
    have hid:z.ids[x.out.length]? = some id:=by rw [e1,←hx.len];simp
    have hout:z.out[x.out.length]? = some ⟨b.ty,b.es,0,false,false,len,b.get⟩:=by rw [e2];simp
    refine .sl _ _ _ _ _ (hR.one rfl) (by omega) fun b2 hb2=>?_
    simp only [blk,hout,if_true,Option.some.injEq] at hb2
    subst hb2
    refine⟨.inl ?_,by simp⟩
    simp only [βF,hid,hout,sub_sub]
    exact e3
  ·exact other e
 ·exact other e
theorem expoL_sound {f:Acc→PV→Option (Acc×PV)} (hf:∀{x y:Acc} {p q:PV} {v:Value},R ok w s.H β s.nx p v→AccOk s.H x→f x p=some (y,q)→AccOk s.H y∧AccExt x y∧GoesOut A w0.toWorld w s β y q v) :
  ∀(ps:List PV) (vs:List Value) {x y:Acc} {qs:List PV},ps.length=vs.length→(∀(i:Nat) p v,ps[i]? = some p→vs[i]? = some v→R ok w s.H β s.nx p v)→AccOk s.H x→expoL f x ps=some (y,qs) →
   AccOk s.H y∧AccExt x y∧qs.length=ps.length∧∀(i:Nat) q v,qs[i]? = some q→vs[i]? = some v→GoesOut A w0.toWorld w s β y q v
 |[],vs,x,y,qs,_,_,hx,e=>by
  simp only [expoL,Option.some.injEq,Prod.mk.injEq] at e
  obtain⟨rfl,rfl⟩:=e
  exact⟨hx,AccExt.refl _,rfl,by simp⟩
 |p::ps,[],_,_,_,hl,_,_,_=>by simp at hl
 |p::ps,v::vs,x,y,qs,hl,hR,hx,e=>by
  simp only [expoL,Option.bind_eq_some_iff,Option.map_eq_some_iff,Prod.mk.injEq] at e
  obtain⟨⟨x1,q1⟩,h1,⟨y1,qs1⟩,h2,rfl,rfl⟩:=e
  obtain⟨k1,k2,k3⟩:=hf (hR 0 p v (by simp) (by simp)) hx h1
  obtain⟨m1,m2,m3,m4⟩:=expoL_sound hf ps vs (by simpa using hl) (fun i p v hp hv=>hR (i+1) p v (by simpa using hp) (by simpa using hv)) k1 h2
  refine⟨m1,k2.trans m2,by simp [m3],fun i q u hq hu=>?_⟩
  cases i with
  |zero =>
   simp only [List.getElem?_cons_zero,Option.some.injEq] at hq hu
   subst hq
   subst hu
   exact fun z hz hfin=>k3 z (m2.trans hz) hfin
  |succ i=>exact m4 i q u (by simpa using hq) (by simpa using hu)
theorem R.mkTup {H:Heap} {nx:Nat} {xs:List PV} {vs:Array Value} (l:xs.length=vs.size) (h:∀(i:Nat) p u,xs[i]? = some p→vs[i]? = some u→R ok w H β nx p u):R ok w H β nx (mkTup xs) (.tuple vs):=by
 unfold Ex.mkTup
 split
 ·rename_i us hus
  have hx:=vals_some hus
  have:vs=us.toArray:=by
   apply Array.ext_getElem?
   intro i
   subst hx
   simp only [List.length_map] at l
   rcases Nat.lt_or_ge i us.length with hi|hi
   ·have:=h i (.val us[i]) vs[i] (by simp [hi]) (by simp)
    have:=this.val_eq
    simp [this,hi,←l]
   ·simp [hi,←l]
  rw [this]
  exact .val _
 ·exact .tup xs vs l h
theorem expo2_sound (h:Rel G n w0 ok a w s β) (hA2:∀k,ok k→A k∨w0.heap.size≤k) {x y:Acc} {p q:PV} {v:Value} (hR:R ok w s.H β s.nx p v) (hx:AccOk s.H x) (e:expo2 s.H x p=some (y,q)) :
  AccOk s.H y∧AccExt x y∧GoesOut A w0.toWorld w s β y q v:=by
 unfold expo2 at e
 split at e
 ·rename_i xs
  simp only [Option.map_eq_some_iff,Prod.mk.injEq] at e
  obtain⟨⟨y',qs⟩,h1,rfl,rfl⟩:=e
  obtain⟨vs,rfl,l,hh⟩:=hR.agg_inv
  obtain⟨k1,k2,k3,k4⟩:=expoL_sound (fun hR hx e=>expo1_sound h hA2 hR hx e) xs vs.toList (by simpa using l) (fun i p v hp hv=>hh i p v hp (by simpa using hv)) hx h1
  exact⟨k1,k2,fun z hz hf=>R.mkAgg (by simp;omega) fun i p u hp hu=>k4 i p u hp (by simpa using hu) z hz hf⟩
 ·exact expo1_sound h hA2 hR hx e
theorem expo3_sound (h:Rel G n w0 ok a w s β) (hA2:∀k,ok k→A k∨w0.heap.size≤k) {x y:Acc} {p q:PV} {v:Value} (hR:R ok w s.H β s.nx p v) (hx:AccOk s.H x) (e:expo3 s.H x p=some (y,q)) :
  AccOk s.H y∧AccExt x y∧GoesOut A w0.toWorld w s β y q v:=by
 unfold expo3 at e
 split at e
 ·rename_i xs
  simp only [Option.map_eq_some_iff,Prod.mk.injEq] at e
  obtain⟨⟨y',qs⟩,h1,rfl,rfl⟩:=e
  obtain⟨vs,rfl,l,hh⟩:=hR.tup_inv
  obtain⟨k1,k2,k3,k4⟩:=expoL_sound (fun hR hx e=>expo2_sound h hA2 hR hx e) xs vs.toList (by simpa using l) (fun i p v hp hv=>hh i p v hp (by simpa using hv)) hx h1
  exact⟨k1,k2,fun z hz hf=>R.mkTup (by simp;omega) fun i p u hp hu=>k4 i p u hp (by simpa using hu) z hz hf⟩
 ·exact expo2_sound h hA2 hR hx e
theorem expo_sound (h:Rel G n w0 ok a w s β) (hA2:∀k,ok k→A k∨w0.heap.size≤k) {p q:PV} {Hx:Heap} {v:Value} (hR:R ok w s.H β s.nx p v) (e:expo s.H p=some (q,Hx)):∃βx,Res A w0.toWorld w q Hx βx v:=by
 simp only [expo,Option.bind_eq_some_iff] at e
 obtain⟨⟨y,q'⟩,h1,e⟩:=e
 simp only at e
 split at e
 ·rename_i hdis
  simp only [Option.some.injEq,Prod.mk.injEq] at e
  obtain⟨rfl,rfl⟩:=e
  obtain⟨k1,_,k3⟩:=expo3_sound h hA2 hR ⟨rfl,List.nodup_nil,by simp⟩ h1
  have hfin:Final s.H y:=⟨k1,fun j hj hj2=>by
   have:=List.all_eq_true.1 hdis j hj
   rw [List.contains_iff_mem.2 hj2] at this
   simp at this⟩
  have hid:∀i b',y.out[i]? = some b'→∃id,y.ids[i]? = some id∧βF β y i=sub b'.es 0 b'.n (β id):=by
   intro i b' hb'
   have hi':i < y.ids.length:=by rw [k1.len];exact(List.getElem?_eq_some_iff.1 hb').1
   exact⟨y.ids[i],by simp,by simp [βF,hi',hb']⟩
  refine⟨βF β y,⟨h.ext,fun i b' hb'=>?_,fun i b' hb'=>?_,fun i j hne l1 l2=>?_,k3 y (AccExt.refl _) hfin⟩⟩
  ·obtain⟨id,e1,_⟩:=hid i b' hb'
   obtain⟨b,st,_,_,_,_,g4,_⟩:=k1.get i id b' e1 hb'
   exact g4
  ·obtain⟨id,e1,e2⟩:=hid i b' hb'
   obtain⟨b,st,g1,g0,g2,g3,g4,g5,g6⟩:=k1.get i id b' e1 hb'
   obtain⟨xs,m1,m2,_,_,m3⟩:=h.heap.own id b (blk_some g1).1
   refine⟨xs.take (b'.n*b.es),by rw [e2,g2,g3];exact own_prefix m1 g5,fun i hi=>by rw [g6,g3];exact m2 i (by omega),fun i f p hi hp=>?_⟩
   rw [g6] at hp
   obtain⟨u,e7,_,e8⟩:=m3 i f p (by omega) hp
   have hf:f < b.es:=by rw [←(m2 i (by omega)).1];exact(List.getElem?_eq_some_iff.1 hp).1
   refine⟨u,?_,final_row h hA2 hfin (e8 g0)⟩
   rw [g3,List.getElem?_take,if_pos (flat_index hf hi)]
   exact e7
  ·obtain⟨id,e1,e2⟩:=hid i y.out[i] (by simp [l1])
   obtain⟨jd,e3,e4⟩:=hid j y.out[j] (by simp [l2])
   obtain⟨b,st,g1,_⟩:=k1.get i id y.out[i] e1 (by simp [l1])
   obtain⟨b2,st2,g2,_⟩:=k1.get j jd y.out[j] e3 (by simp [l2])
   have hne2:id≠jd:=by
    intro e
    subst e
    have hi':i < y.ids.length:=by rw [k1.len];exact l1
    have hj':j < y.ids.length:=by rw [k1.len];exact l2
    rw [List.getElem?_eq_getElem hi'] at e1
    rw [List.getElem?_eq_getElem hj'] at e3
    simp only [Option.some.injEq] at e1 e3
    exact hne (List.getElem_inj k1.nodup |>.1 (e1.trans e3.symm))
   rw [e2,e4]
   cases hk:(sub y.out[i].es 0 y.out[i].n (β id)).ownBlock with
   |none=>exact .inl rfl
   |some k =>
    right
    intro hq
    have o1:=sub_own hk
    have o2:=sub_own hq.symm
    rcases h.heap.inj id jd hne2 (List.getElem?_eq_some_iff.1 (blk_some g1).1).1 (List.getElem?_eq_some_iff.1 (blk_some g2).1).1 with e|e
    ·rw [o1] at e;cases e
    ·exact e (by rw [o1,o2])
 ·simp at e
theorem callFunc_enter {f:FuncId} {fn:Func} {c:Code} (hf:P.funcs[f]? = some fn) (hname:(fn.name != "runtime.NumGoroutine")=true) (hb:fn.body=some c) (args:Array Value) (w:World) :
  (callFunc f args).run P w=.ok (.enter f args) w:=by
 have h1:fn.name ≠ "runtime.NumGoroutine" := by simpa using hname
 simp [callFunc,program,Sem.run,hf,h1,hb]
def Env.now (E:Env):Env:=match E with
 |⟨call,own,inl,seq,_,_⟩=>⟨call,own,inl,seq,none,false⟩
theorem EnvOk.now (hE:EnvOk P E):EnvOk P E.now:=by
 obtain⟨call,own,inl,seq,yl,strict⟩:=E
 exact⟨hE.1,hE.2.1,hE.2.2⟩
theorem Env.now_yl {Z:List (Nat→PV)→Base→Prop} {G:List (Array Value)} {A:Nat→Prop}:YOk P E.now Z G A:=by
 obtain⟨call,own,inl,seq,yl,strict⟩:=E
 exact nofun
def endOk (P:Program) (rs:List ResultVar) (r:Ans) (s:St):Prop:=match resVal P s rs with
 |some p=>match expo s.H p with
  |some q=>q.1.to fun p=>Heap.to q.2 fun o=>p=r.val∧o=r.out
  |none=>False
 |none=>False
def vcF (P:Program) (E:Env) (D:Opt) (fn:Func) (s:St) (r:Ans):Prop:=match fn.body with
 |none=>False
 |some c=>vc P E.now D c s fun e s=>match e with
  |.normal | .ret=>endOk P fn.results.toList r s
  |_=>False
def vcW (P:Program) (E:Env) (D:Opt) (fn:Func) (s:St) (r:Ans):Prop:=match fn.body with
 |none=>False
 |some c=>vc P E.now D c s fun e s=>match e with
  |.normal | .ret=>∃(σ : Ren) (s':St),Weak σ s s'∧endOk P fn.results.toList r s'
  |_=>False
theorem marks_leave {fn:Func} {R:Ending→World→Prop}:∀(ds:List Deferred) (b:Base) (a:Act) (w:World),a.defers=ds→Rel G n b ok a w s β →
  (∀(b':Base) (a':Act) (w':World),a'.tmps=a.tmps→a'.defers=[]→b'.toWorld=b.toWorld→b'.old=b.old→(∀k o,b.pin k=some o→b.old k≠none→b'.pin k=some o)→Rel G n b' ok a' w' s β→∃v,(results fn a.tmps).run P w'=.ok v w'∧R (.returned v) w') →
  LeavesInM Fence.wide 0 P fn a.tmps R ds .returning w
 |[],b,a,w,hd,h,hR=>by
  unfold LeavesInM LeavesIn
  exact hR b a w rfl hd rfl rfl (fun _ _ h _=>h) h
 |d::ds,b,a,w,hd,h,hR=>by
  unfold LeavesInM
  refine⟨nofun,.inl ?_⟩
  have hm:=h.defers
  rw [hd] at hm
  obtain⟨hn,hm⟩:=hm
  obtain⟨D,rfl,e2,e3,e4⟩:=hm d (by simp)
  have hD:=h.pins D _ e2
  refine⟨D,_,rfl,run_takeDeferred hD.2,?_⟩
  let b':Base:=⟨b.toWorld,fun k=>if k=D then none else b.pin k,b.old⟩
  have h':Rel G n b' ok { a with defers:=ds } (w.putObj D (.deferred none)) s β:=by
   refine h.turnPin hD.2 rfl e3 rfl rfl (fun k x hk=>?_) ⟨(List.nodup_cons.1 hn).2,fun d' hd'=>?_⟩
   ·simp only [b'] at hk
    split at hk
    ·cases hk
    ·rename_i h1;exact .inr ⟨h1,hk⟩
   ·obtain⟨D',rfl,f2,f3,f4⟩:=hm d' (by simp [hd'])
    have hne:D'≠D:=fun e=>(List.nodup_cons.1 hn).1 (e▸hd')
    exact⟨D',rfl,by simp [b',hne,f2],f3,f4⟩
  refine marks_leave ds b' { a with defers:=ds } _ rfl h' fun b2 a2 w2 h1 h2 h3 h4 h5 h6=>hR b2 a2 w2 h1 h2 h3 h4 (fun k o hk ho=>h5 k o ?_ ho) h6
  have hne:k≠D:=fun e=>ho (e▸e4)
  simp [b',hne,hk]
theorem end_sound {fn:Func} (hx:(fn.results.toList.all fun r=>match r with | .tmp t=>decide (t < n) | .cell t _=>decide (t < n))=true) {r:Ans} {w0:World} (h:Sim false (Z0 w0) G n A a w s) (e:endOk P fn.results.toList r s) :
  LeavesInM Fence.wide 0 P fn a.tmps (fun e w'=>∃v β,e=.returned v∧Res A w0 w' r.val r.out β v) a.defers .returning w:=by
 obtain⟨b,ok,β,⟨hw,_⟩,hr,hA1,hA2,_⟩:=h
 refine marks_leave _ b a w rfl hr fun b' a' w' ht _ hbw _ _ hr'=>?_
 unfold endOk at e
 split at e
 ·rename_i p hp
  split at e
  ·rename_i q hq
   obtain⟨v,hv1,hv2⟩:=resVal_sound (P:=P) hr' hx hp
   obtain⟨q1,q2⟩:=q
   simp only [PV.to_eq,Heap.to_eq] at e
   obtain⟨rfl,rfl⟩:=e
   have hbs:b'.heap.size=b.heap.size:=by rw [hbw]
   obtain⟨βx,hx⟩:=expo_sound hr' (fun k hk=>(hA2 k hk).imp id fun h=>by rw [hbs];exact h.2) hv2 hq
   rw [hbw,hw] at hx
   rw [ht] at hv1
   exact⟨v,hv1,v,βx,rfl,hx⟩
  ·exact e.elim
 ·exact e.elim
theorem funcOk_spec {fn:Func} {m:Nat} (h:funcOk D.toOrd fn m=true):(∃c,fn.body=some c∧codeOk D.toOrd fn.ntmps c=true)∧m≤fn.ntmps∧(fn.results.toList.all fun r=>match r with | .tmp t=>decide (t < fn.ntmps) | .cell t _=>decide (t < fn.ntmps))=true∧(fn.name != "runtime.NumGoroutine")=true:=by
 simp only [funcOk,Bool.and_eq_true,decide_eq_true_eq] at h
 obtain⟨⟨⟨h1,h2⟩,h3⟩,h4⟩:=h
 refine⟨?_,h2,h3,h4⟩
 cases hb:fn.body with
 |none=>rw [hb] at h1;simp at h1
 |some c=>rw [hb] at h1;exact⟨c,rfl,h1⟩
theorem fn_soundW (hm:P.follows .mixedOrders=true) (hE:EnvOk P E) {f:FuncId} {fn:Func} (hf:P.funcs[f]? = some fn) (D:Opt) (m:Nat) (hok:funcOk D.toOrd fn m=true) {args:List PV} (hlen:args.length≤m) {r:Ans}
  (h:Met r.pre→∃(σ : Ren) (s:St),Weak σ (start args) s∧vcW P E D fn s r):Answers P f args r:=by
 obtain⟨⟨c,hb,h1⟩,h2,h3,h4⟩:=funcOk_spec hok
 refine⟨fun vs w=>callFunc_enter hf h4 hb vs w,fun hmet A w vs hA hl hR=>?_⟩
 obtain⟨σ,s,hw,hv⟩:=h hmet
 unfold vcW at hv
 rw [hb] at hv
 simp only at hv
 refine callsIn_wide.1 (callsIn_of_wp_marks (n:=0) hf hb trivial (vc_sound hm c (E.now) D none (Z0 w) [] fn.ntmps A hE.now (Z0_ok w) E.now_yl (fun _=>rfl) s _ _ w _ h1 hv (Sim.weak (Z0_ok w) (start_sim hA hl hR (by omega)) hw) fun x s' a' w' hk h'=>?_))
 cases x with
 |normal=>obtain⟨σ',s2,hw2,hk⟩:=hk;exact end_sound h3 (Sim.weak (Z0_ok w) h' hw2) hk
 |ret=>obtain⟨σ',s2,hw2,hk⟩:=hk;exact end_sound h3 (Sim.weak (Z0_ok w) h' hw2) hk
 |_=>exact hk.elim
theorem fn_sound (hm:P.follows .mixedOrders=true) (hE:EnvOk P E) {f:FuncId} {fn:Func} (hf:P.funcs[f]? = some fn) (D:Opt) (m:Nat) (hok:funcOk D.toOrd fn m=true) {args:List PV} (hlen:args.length≤m) {r:Ans}
  (h:Met r.pre→vcF P E D fn (start args) r):Answers P f args r:=by
 obtain⟨⟨c,hb,h1⟩,h2,h3,h4⟩:=funcOk_spec hok
 refine⟨fun vs w=>callFunc_enter hf h4 hb vs w,fun hmet A w vs hA hl hR=>?_⟩
 have hv:=h hmet
 unfold vcF at hv
 rw [hb] at hv
 simp only at hv
 refine callsIn_wide.1 (callsIn_of_wp_marks (n:=0) hf hb trivial (vc_sound hm c (E.now) D none (Z0 w) [] fn.ntmps A hE.now (Z0_ok w) E.now_yl (fun _=>rfl) _ _ _ w _ h1 hv (start_sim hA hl hR (by omega)) fun x s' a' w' hk h'=>?_))
 cases x with
 |normal=>exact end_sound h3 h' hk
 |ret=>exact end_sound h3 h' hk
 |_=>exact hk.elim
def walk (P:Program) (E:Env) (D:Opt) (fn:Func):Trans:=fun args s K=>match fn.body with
 |none=>False
 |some c=>vc P E.now D c ⟨fun t=>(args[t]?).getD (.val undef),s.H,s.nx,s.fr::s.sv⟩ fun e s'=>match e with
  |.normal | .ret=>match resVal P s' fn.results.toList,s'.sv with
   |some p,f::r=>K p ⟨f,s'.H,s'.nx,r⟩
   |_,_=>False
  |_=>False
theorem walk_ok (hm:P.follows .mixedOrders=true) (hE:EnvOk P E) {f:FuncId} {fn:Func} (hf:P.funcs[f]? = some fn) (D:Opt) (m:Nat) (hok:funcOk D.toOrd fn m=true) {T:Trans} (hT:∀args s K,T args s K→args.length≤m∧walk P E D fn args s K):TransOk P f T:=by
 obtain⟨⟨c,hb,h1⟩,h2,h3,h4⟩:=funcOk_spec hok
 refine⟨fun vs w=>callFunc_enter hf h4 hb vs w,fun Z G n A a w s args vs K hZ hS e=>?_⟩
 obtain⟨hlen,e⟩:=hT args s K e
 unfold walk at e
 rw [hb] at e
 simp only at e
 obtain⟨b,ok,β,hz,hr,hA1,hA2,_,hl,hR⟩:=hS
 have hlv:args.length=vs.size:=by simpa using hl
 let Z':List (Nat→PV)→Base→Prop:=fun sv b'=>∃f r,sv=f::r∧b'.toWorld=b.toWorld∧b'.old=b.pin∧(∀k o,b.pin k=some o→b'.pin k=some o)∧Z r b
 have hZ':ZOk Z':=by
  refine⟨?_,?_,?_⟩
  ·rintro sv sv' b' hall ⟨f,r,rfl,h1,h2,h3,h4⟩
   cases sv' with
   |nil=>exact hall.elim
   |cons f' r'=>exact⟨f',r',rfl,h1,h2,h3,hZ.weak _ _ _ hall.2 h4⟩
  ·rintro sv b1 b2 e1 e2 e3 ⟨f,r,rfl,h1,h2,h3,h4⟩
   exact⟨f,r,rfl,e1.trans h1,e2.trans h2,fun k o hk=>e3 k o (h3 k o hk),h4⟩
  ·rintro sv b1 ⟨f,r,rfl,h1,h2,h3,h4⟩ k o hk
   rw [h2] at hk
   exact h3 k o hk
 have hsim:Sim false Z' (a.tmps::G) fn.ntmps A { tmps:=vs++Array.replicate (fn.ntmps - vs.size) undef,defers:=[] } w ⟨fun t=>(args[t]?).getD (.val undef),s.H,s.nx,s.fr::s.sv⟩:=by
  refine⟨⟨b.toWorld,b.pin,b.pin⟩,ok,β,⟨_,_,rfl,rfl,rfl,fun _ _ h=>h,hz⟩,⟨fun t ht=>?_,by simp;omega,Marks.nil _,hr.heap,hr.ext,hr.oklt,⟨fun t ht=>hr.fr t (by rw [←hr.size];exact ht),hr.sv⟩,hr.pins⟩,hA1,hA2,nofun⟩
  rcases Nat.lt_or_ge t args.length with h|h
  ·have e1:args[t]? = some args[t]:=by simp [h]
   have hv:t < vs.size:=by omega
   have e2:vs[t]? = some vs[t]:=by simp [hv]
   simp only
   rw [e1,Option.getD_some,Array.getD_eq_getD_getElem?,Array.getElem?_append_left hv,e2,Option.getD_some]
   exact hR t _ _ e1 (by simpa using e2)
  ·simp only
   rw [List.getElem?_eq_none h,Option.getD_none]
   have:(vs++Array.replicate (fn.ntmps - vs.size) undef).getD t undef=undef:=by
    rw [Array.getD_eq_getD_getElem?,Array.getElem?_append_right (by omega)]
    simp only [Array.getElem?_replicate]
    split<;>rfl
   rw [this]
   exact .val _
 have key:∀(s':St) (a':Act) (w':World),(match resVal P s' fn.results.toList,s'.sv with
   |some p,f::r=>K p ⟨f,s'.H,s'.nx,r⟩
   |_,_=>False)→Sim false Z' (a.tmps::G) fn.ntmps A a' w' s'→LeavesInM Fence.wide 0 P fn a'.tmps (fun e w'=>∃v p s',e=.returned v∧K p s'∧SimV false Z G n A a w' s' [p] [v]) a'.defers .returning w':=by
  intro s' a' w' hk h'
  obtain⟨b',ok',β',⟨f',r',hsv',hb'w,hb'o,hb'p,hz'⟩,hr',hA1',hA2',_⟩:=h'
  refine marks_leave _ b' a' w' rfl hr' fun b2 a2 w2 ht hd2 hbw hbo hbp hr2=>?_
  split at hk
  ·rename_i p g r hp hsv
   rw [hsv] at hsv'
   obtain⟨rfl,rfl⟩:=List.cons.inj hsv'
   obtain⟨v,hv1,hv2⟩:=resVal_sound (P:=P) hr2 h3 hp
   have hall:=hr2.sv
   rw [hsv] at hall
   rw [ht] at hv1
   have hw2:b2.toWorld=b.toWorld:=hbw.trans hb'w
   have hsz:b'.heap.size=b.heap.size:=by rw [hb'w]
   have hR2:Rel G n b ok' a w2 ⟨g,s'.H,s'.nx,r⟩ β':=by
    have h5:Rel (a.tmps::G) fn.ntmps b ok' { a2 with defers:=[] } w2 s' β':=hr2.base (b':=b) hw2.symm rfl (fun k o hk=>hr2.pins k o (hbp k o (hb'p k o hk) (by rw [hb'o,hk];simp))) (Marks.nil _)
    exact⟨fun t ht=>hall.1 t (by rw [hr.size];exact ht),hr.size,hr.defers,h5.heap,h5.ext,h5.oklt,hall.2,h5.pins⟩
   exact⟨v,hv1,v,p,_,rfl,hk,b,ok',β',hz',hR2,hA1',fun k hk=>(hA2' k hk).imp id fun h=>⟨rfl,by rw [←hsz];exact h.2⟩,nofun,rfl,fun i p' v' hp' hv'=>by
    cases i with
    |zero=>simp at hp' hv';rw [←hp',←hv'];exact hv2
    |succ i=>simp at hp'⟩
  ·exact hk.elim
 refine callsIn_wide.1 (callsIn_of_wp_marks (n:=0) hf hb trivial (vc_sound hm c E.now D none Z' (a.tmps::G) fn.ntmps A hE.now hZ' E.now_yl (fun _=>rfl) _ _ _ w _ h1 e (by cases E;exact hsim) fun x s' a' w' hk h'=>?_))
 have h':Sim false Z' (a.tmps::G) fn.ntmps A a' w' s':=by cases E;exact h'
 cases x with
 |normal=>exact key s' a' w' hk h'
 |ret=>exact key s' a' w' hk h'
 |_=>exact hk.elim
def ghost (k:Int) (c:Bool):Nat→PV:=fun i=>bif Nat.beq i 0 then .val (.int .i64 k) else bif Nat.beq i 1 then .val (.bool c) else .junk
def yT (q:SeqA):Trans:=fun args s K=>match s with
 |⟨fr,H,nx,[g]⟩=>match g 0,g 1 with
  |.val (.int .i64 i),.val (.bool false)=>match mapO (deep H 4) args,args.flatMap (reach H 4) with
   |some ds,[]=>∃k:Nat,i=k∧k < q.n∧ds=q.xs k∧K (.val (.bool true)) ⟨fr,[],nx+1,[ghost (k+1:Nat) false]⟩∧K (.val (.bool false)) ⟨fr,[],nx+1,[ghost (k+1:Nat) true]⟩
   |_,_=>False
  |_,_=>False
 |_=>False
def Env.seqE (E:Env) (q:SeqA) (l:Nat):Env:=match E with
 |⟨call,own,inl,seq,_,_⟩=>⟨call,own,inl,seq,some (l,yT q),true⟩
def seqEnd (q:SeqA) (s:St):Prop:=match s with
 |⟨_,_,_,[g]⟩=>match g 0,g 1 with
  |_,.val (.bool true)=>True
  |.val (.int .i64 k),.val (.bool false)=>k=q.n
  |_,_=>False
 |_=>False
def vcSeq (P:Program) (E:Env) (D:Opt) (fn:Func) (caps:List PV) (q:SeqA) (l:Nat):Prop:=match fn.body with
 |none=>False
 |some c=>vc P (E.seqE q l) D c ⟨fun t=>((PV.val (.func (.yield l) ⟨[]⟩ ⟨[]⟩)::caps)[t]?).getD (.val undef),[],0,[ghost 0 false]⟩ fun e s=>match e with
  |.normal | .ret=>seqEnd q s
  |_=>False
theorem seq_sound (hm:P.follows .mixedOrders=true) (hE:EnvOk P E) {f:FuncId} {fn:Func} (hf:P.funcs[f]? = some fn) (D:Opt) (m:Nat) (hok:funcOk D.toOrd fn m=true) (hres:fn.results = #[]) {caps:List PV} (hlen:caps.length+1≤m) {q:SeqA}
  (h:Met q.pre→∀l,vcSeq P E D fn caps q l):SeqOk P f caps q:=by
 obtain⟨⟨c,hb,h1⟩,h2,h3,h4⟩:=funcOk_spec hok
 refine⟨fun vs w=>callFunc_enter hf h4 hb vs w,fun hmet A w lb l J Jx hA hl hR hJ hJx hY hJ0=>?_⟩
 have hv:=h hmet l
 unfold vcSeq at hv
 rw [hb] at hv
 simp only at hv
 let Z:List (Nat→PV)→Base→Prop:=fun sv b=>∃gh,sv=[gh]∧b.old=(fun _=>none)∧(∀k:Nat,gh 0=.val (.int .i64 k)→gh 1=.val (.bool false)→J k b.toWorld)∧(gh 1=.val (.bool true)→Jx b.toWorld)
 have hZ:ZOk Z:=by
  refine⟨?_,?_,?_⟩
  ·rintro sv sv' b hall ⟨gh,rfl,h1,h2,h3⟩
   match sv',hall with
   |[gh'],hall=>exact⟨gh',rfl,h1,fun k e1 e2=>h2 k (hall.1 _ _ e1) (hall.1 _ _ e2),fun e=>h3 (hall.1 _ _ e)⟩
  ·rintro sv b b' e1 e2 _ ⟨gh,rfl,h1,h2,h3⟩
   exact⟨gh,rfl,e2.trans h1,fun k=>by rw [e1];exact h2 k,by rw [e1];exact h3⟩
  ·rintro sv b ⟨gh,rfl,h1,h2,h3⟩ k o e
   rw [h1] at e
   cases e
 have hst:(E.seqE q l).strict=true:=by cases E;rfl
 have hE':EnvOk P (E.seqE q l):=by cases E;exact⟨hE.1,hE.2.1,hE.2.2⟩
 have hYok:YOk P (E.seqE q l) Z [#[]] A:=by
  intro l' T hlT n a w1 s args vs K hS hT
  obtain⟨rfl,rfl⟩:l=l'∧yT q=T:=by cases E;simpa [Env.seqE] using hlT
  rw [hst] at hS ⊢
  obtain⟨b,ok,β,⟨gh,hsv,_,hg1,hg2⟩,hr,hA1,hA2,hA3,hlen,hRR⟩:=hS
  obtain⟨fr,H,nx,sv⟩:=s
  simp only at hsv
  subst hsv
  unfold yT at hT
  simp only at hT
  split at hT
  ·rename_i i e0 e1
   split at hT
   ·rename_i ds hds hre
    obtain⟨k,rfl,hk,rfl,hK1,hK2⟩:=hT
    have hJk:J k w1:=hJ k _ _ (hg1 k e0 e1) hr.ext
    obtain⟨m1,m2⟩:=mapO_some hds
    have hokA:∀k,ok k→A k:=fun k hk=>(hA2 k hk).elim id fun h=>nomatch h.1
    have hvs:vs.size=args.length:=by simpa using hlen.symm
    obtain⟨fn',tm,x,bo,hrun,hro⟩:=hY k w1 vs hk hJk (by rw [m1,hvs]) (fun j p v hp hv=>by
     obtain⟨y,f1,f2⟩:=m2 j p hp
     exact deep_sound (A:=A) hr.heap hokA 4 y p v (hRR j y v f1 (by simpa using hv)) f2 fun id hid _ _ _=>by
      have:id∈args.flatMap (reach H 4):=List.mem_flatMap.2 ⟨y,List.mem_of_getElem? f1,hid⟩
      rw [hre] at this
      cases this)
    refine⟨fn',tm,x,bo,hrun,hro.mono ?_⟩
    have reset:∀(W':World) (g':Nat→PV),KeepA A w1 W'→Rel [#[]] n ⟨W',fun _=>none,fun _=>none⟩ A a W' ⟨fr,[],nx+1,[g']⟩ β:=by
     intro W' g' hkp
     have hL:Later ok A w1 W' H [] β β nx (nx+1):=⟨Nat.le_succ _,hokA,fun ad v hk hc=>by
      rw [World.cell?] at hc ⊢
      rw [hkp _ (hokA _ hk)]
      exact hc,fun id st b' _ e=>by simp [blk] at e⟩
     refine⟨fun t ht=>(hr.fr t ht).later hL,hr.size,by rw [hA3 rfl];exact Marks.nil _,⟨by simp,by simp,by simp,by simp⟩,Below.refl _ _,fun k hk=>?_,⟨fun t ht=>by simp at ht,trivial⟩,nofun⟩
     have h1:=hr.oklt k (hA1 k hk)
     have h2:w1.heap[k]? = some w1.heap[k]:=by simp [h1]
     have:=(hkp k hk).trans h2
     exact(Array.getElem?_eq_some_iff.1 this).1
    rintro e' W' ⟨⟨rfl,hJ'⟩|⟨rfl,hJ'⟩,hkp⟩
    ·refine⟨_,_,_,rfl,hK1,⟨W',fun _=>none,fun _=>none⟩,A,β,⟨_,rfl,rfl,fun k' e _=>?_,fun e=>?_⟩,reset W' _ hkp,fun _ h=>h,fun _ h=>.inl h,hA3,rfl,fun i p v hp hv=>?_⟩
     ·have:((k+1:Nat):Int)=(k':Int):=by simpa [ghost] using e
      have:k'=k+1:=by omega
      rw [this];exact hJ'
     ·cases (show PV.val (.bool false)=PV.val (.bool true) from e)
     ·cases i with
      |zero=>simp at hp hv;rw [←hp,←hv];exact .val _
      |succ i=>simp at hp
    ·refine⟨_,_,_,rfl,hK2,⟨W',fun _=>none,fun _=>none⟩,A,β,⟨_,rfl,rfl,fun k' e e2=>?_,fun e=>hJ'⟩,reset W' _ hkp,fun _ h=>h,fun _ h=>.inl h,hA3,rfl,fun i p v hp hv=>?_⟩
     ·cases (show PV.val (.bool true)=PV.val (.bool false) from e2)
     ·cases i with
      |zero=>simp at hp hv;rw [←hp,←hv];exact .val _
      |succ i=>simp at hp
   ·exact hT.elim
  ·exact hT.elim
 have hlb:lb.size=caps.length:=hl.symm
 have hsim:Sim true Z [#[]] fn.ntmps A { tmps:=#[Value.func (.yield l) #[] #[]]++lb++Array.replicate (fn.ntmps - (#[Value.func (.yield l) #[] #[]]++lb).size) undef,defers:=[] } w ⟨fun t=>((PV.val (.func (.yield l) ⟨[]⟩ ⟨[]⟩)::caps)[t]?).getD (.val undef),[],0,[ghost 0 false]⟩:=by
  refine⟨⟨w,fun _=>none,fun _=>none⟩,A,fun _=>undef,⟨_,rfl,rfl,fun k e _=>?_,fun e=>by cases (show PV.val (.bool false)=PV.val (.bool true) from e)⟩,⟨fun t ht=>?_,by simp;omega,Marks.nil _,⟨by simp,by simp,by simp,by simp⟩,Below.refl _ _,hA,⟨fun t ht=>by simp at ht,trivial⟩,nofun⟩,fun _ h=>h,fun _ h=>.inl h,fun _=>rfl⟩
  ·have:(0:Int)=(k:Int):=by simpa [ghost] using e
   have:k=0:=by omega
   rw [this];exact hJ0
  ·simp only
   rcases Nat.lt_or_ge t (caps.length+1) with h|h
   ·have hv:t < (#[Value.func (.yield l) #[] #[]]++lb:Array Value).size:=by simp;omega
    rw [Array.getD_eq_getD_getElem?,Array.getElem?_append_left hv]
    cases t with
    |zero =>
     have:(#[Value.func (.yield l) #[] #[]]++lb:Array Value)[0]? = some (.func (.yield l) #[] #[]):=by
      rw [Array.getElem?_append_left (by simp)]
      rfl
     rw [this]
     exact .val _
    |succ t =>
     have ht:t < caps.length:=by omega
     have htl:t < lb.size:=by omega
     have e1:caps[t]? = some caps[t]:=by simp [ht]
     have e2:lb[t]? = some lb[t]:=by simp [htl]
     rw [List.getElem?_cons_succ,e1,Option.getD_some,Array.getElem?_append_right (by simp)]
     simp only [List.size_toArray,List.length_singleton,Nat.add_sub_cancel,e2,Option.getD_some]
     exact .deep _ _ (hR t _ _ e1 e2)
   ·rw [List.getElem?_eq_none (by simpa using h),Option.getD_none]
    have:(#[Value.func (.yield l) #[] #[]]++lb++Array.replicate (fn.ntmps - (#[Value.func (.yield l) #[] #[]]++lb:Array Value).size) undef).getD t undef=undef:=by
     rw [Array.getD_eq_getD_getElem?,Array.getElem?_append_right (by simp;omega)]
     simp only [Array.getElem?_replicate]
     split<;>rfl
    rw [this]
    exact .val _
 refine callsIn_of_wp_marks (n:=0) hf hb trivial (vc_sound hm c (E.seqE q l) D none Z [#[]] fn.ntmps A hE' hZ hYok (fun _=>rfl) _ _ _ w _ h1 hv (by rw [hst];exact hsim) fun x s' a' w' hk h'=>?_)
 rw [hst] at h'
 have key:seqEnd q s'→LeavesInM Fence.wide 0 P fn a'.tmps (fun e w'=>(∃v,e=.returned v)∧(J q.n w'∨Jx w')) a'.defers .returning w':=by
  intro hk
  obtain⟨b,ok,β,⟨gh,hsv,_,hg1,hg2⟩,hr,_,_,hA3⟩:=h'
  rw [hA3 rfl]
  unfold LeavesInM LeavesIn
  refine⟨.tuple #[],by rw [results_eq,hres];simp [Sem.run],⟨_,rfl⟩,?_⟩
  obtain⟨fr,H,nx,sv⟩:=s'
  simp only at hsv
  subst hsv
  unfold seqEnd at hk
  simp only at hk
  split at hk
  ·rename_i e1;exact .inr (hJx _ _ (hg2 e1) hr.ext)
  ·rename_i e0 e1;subst hk;exact .inl (hJ _ _ _ (hg1 _ e0 e1) hr.ext)
  ·exact hk.elim
 cases x with
 |normal=>exact key hk
 |ret=>exact key hk
 |_=>exact hk.elim
end
end Go.Ex
namespace Go.Ex
open Go Go.RowKit
def FnOk (P:Program) (f:FuncId) (s:List PV→Option Ans):Prop:=∀args r,s args=some r→Answers P f args r
def lookF:List (Nat×(List PV→Option Ans))→Nat→List PV→Option Ans
 |[],_,_=>none
 |(k,s)::l,f,args=>bif Nat.beq f k then s args else lookF l f args
def hasF:List Nat→Nat→Bool
 |[],_=>false
 |k::l,f=>bif Nat.beq f k then true else hasF l f
def lookT:List (Nat×Trans)→Nat→Option Trans
 |[],_=>none
 |(k,T)::l,f=>bif Nat.beq f k then some T else lookT l f
def mkE (l:List (Nat×(List PV→Option Ans))) (own:List Nat) (inl:List (Nat×Trans)):Env:={ call:=lookF l,own:=hasF own,inl:=lookT inl }
theorem lookT_ok {P:Program}:∀{l:List (Nat×Trans)},(∀x∈l,TransOk P x.1 x.2)→∀f T,lookT l f=some T→TransOk P f T
 |[],_,f,T,e=>by cases e
 |(k,s)::l,h,f,T,e=>by
  unfold lookT at e
  cases hk:Nat.beq f k with
  |true =>
   rw [hk] at e
   rw [Nat.eq_of_beq_eq_true hk]
   cases e
   exact h (k,s) (by simp)
  |false =>
   rw [hk] at e
   exact lookT_ok (fun x hx=>h x (by simp [hx])) f T e
theorem lookF_ok {P:Program}:∀{l:List (Nat×(List PV→Option Ans))},(∀x∈l,FnOk P x.1 x.2)→∀f args r,lookF l f args=some r→Answers P f args r
 |[],_,f,args,r,e=>by cases e
 |(k,s)::l,h,f,args,r,e=>by
  unfold lookF at e
  cases hk:Nat.beq f k with
  |true =>
   rw [hk] at e
   rw [Nat.eq_of_beq_eq_true hk]
   exact h (k,s) (by simp) args r e
  |false =>
   rw [hk] at e
   exact lookF_ok (fun x hx=>h x (by simp [hx])) f args r e
theorem mkE_ok {P:Program} {l:List (Nat×(List PV→Option Ans))} {own:List Nat} {inl:List (Nat×Trans)} (h:∀x∈l,FnOk P x.1 x.2) (h2:∀x∈inl,TransOk P x.1 x.2):EnvOk P (mkE l own inl):=⟨lookF_ok h,lookT_ok h2,nofun⟩
theorem lt_ok {a b:Nat} (h:Nat.ble (a+1) b=true):a < b:=Nat.le_of_ble_eq_true h
def setF:List (Nat×PV)→Nat→PV
 |[],_=>.junk
 |(k,v)::l,t=>bif Nat.beq t k then v else setF l t
def weakF (s s':St) (σ : Ren) (f:Nat→PV):List (Nat×PV)→Prop
 |[]=>True
 |(k,v)::l=>weakV s s' σ 3 (f k) v∧weakF s s' σ f l
def weakFs (s s':St) (σ : Ren):List (Nat→PV)→List (List (Nat×PV))→Prop
 |[],[]=>True
 |f::fs,l::ls=>weakF s s' σ f l∧weakFs s s' σ fs ls
 |_,_=>False
theorem weakF_get {s s':St} {σ : Ren} {f:Nat→PV}:∀{l:List (Nat×PV)},weakF s s' σ f l→∀t,weakV s s' σ 3 (f t) (setF l t)
 |[],_,t=>trivial
 |(k,v)::l,h,t=>by
  unfold setF
  cases hk:Nat.beq t k with
  |true=>rw [Nat.eq_of_beq_eq_true hk];exact h.1
  |false=>exact weakF_get h.2 t
def stOf (l:List (Nat×PV)) (H:Heap) (nx:Nat) (ls:List (List (Nat×PV))):St:=⟨setF l,H,nx,ls.map setF⟩
theorem weakFs_get {s s':St} {σ : Ren}:∀{fs:List (Nat→PV)} {ls:List (List (Nat×PV))},weakFs s s' σ fs ls→all2 (fun f f'=>∀t,weakV s s' σ 3 (f t) (f' t)) fs (ls.map setF)
 |[],[],_=>trivial
 |f::fs,l::ls,h=>⟨weakF_get h.1,weakFs_get h.2⟩
 |[],_::_,h=>by cases h
 |_::_,[],h=>by cases h
theorem Weak.of {σ : Ren} {s:St} {l:List (Nat×PV)} {H:Heap} {nx:Nat} {ls:List (List (Nat×PV))} (h1:(σ.filterMap id).Nodup) (h2:all2 (weakB s (stOf l H nx ls) σ) σ H) (h3:weakF s (stOf l H nx ls) σ s.fr l) (h4:weakFs s (stOf l H nx ls) σ s.sv ls):Weak σ s (stOf l H nx ls) :=
 ⟨h1,h2,weakF_get h3,weakFs_get h4⟩
def rds:Nat→List (Nat×Bool)
 |0=>[]
 |n+1=>rds n++[(n,true)]
def atR (id:Nat) (l:List (Nat×Bool)):Nat→Option OT:=fun i=>bif Nat.beq i id then some (OT.ofL l) else none
def atRs:List (Nat×List (Nat×Bool))→Nat→Option OT
 |[],_=>none
 |(k,l)::r,i=>bif Nat.beq i k then some (OT.ofL l) else atRs r i
def OT.seq:List Nat→OT→OT
 |[],t=>t
 |i::r,t=>.mk i (OT.seq r t)
def atTs:List (Nat×OT)→Nat→Option OT
 |[],_=>none
 |(k,l)::r,i=>bif Nat.beq i k then some l else atTs r i
def lookS:List (Nat×(List PV→Option SeqA))→Nat→List PV→Option SeqA
 |[],_,_=>none
 |(k,s)::l,f,args=>bif Nat.beq f k then s args else lookS l f args
def SeqFn (P:Program) (f:FuncId) (s:List PV→Option SeqA):Prop:=∀caps q,s caps=some q→SeqOk P f caps q
theorem lookS_ok {P:Program}:∀{l:List (Nat×(List PV→Option SeqA))},(∀x∈l,SeqFn P x.1 x.2)→∀f caps q,lookS l f caps=some q→SeqOk P f caps q
 |[],_,f,caps,q,e=>by cases e
 |(k,s)::l,h,f,caps,q,e=>by
  unfold lookS at e
  cases hk:Nat.beq f k with
  |true =>
   rw [hk] at e
   rw [Nat.eq_of_beq_eq_true hk]
   exact h (k,s) (by simp) caps q e
  |false =>
   rw [hk] at e
   exact lookS_ok (fun x hx=>h x (by simp [hx])) f caps q e
def mkS (l:List (Nat×(List PV→Option Ans))) (own:List Nat) (inl:List (Nat×Trans)) (sq:List (Nat×(List PV→Option SeqA))):Env:={ call:=lookF l,own:=hasF own,inl:=lookT inl,seq:=lookS sq }
theorem mkS_ok {P:Program} {l:List (Nat×(List PV→Option Ans))} {own:List Nat} {inl:List (Nat×Trans)} {sq:List (Nat×(List PV→Option SeqA))} (h:∀x∈l,FnOk P x.1 x.2) (h2:∀x∈inl,TransOk P x.1 x.2) (h3:∀x∈sq,SeqFn P x.1 x.2):EnvOk P (mkS l own inl sq) :=
 ⟨lookF_ok h,lookT_ok h2,lookS_ok h3⟩
theorem SeqFn.of {P:Program} {f:FuncId} {fn:Func} {s:List PV→Option SeqA} (hm:P.follows .mixedOrders=true) {E:Env} (hE:EnvOk P E) (hf:P.funcs[f]? = some fn) (D:Opt) (m:Nat) (hok:funcOk D.toOrd fn m=true) (hres:fn.results = #[])
  (h:∀caps q,s caps=some q→caps.length+1≤m∧(Met q.pre→∀l,vcSeq P E D fn caps q l)):SeqFn P f s :=
 fun caps q e=>seq_sound hm hE hf D m hok hres (h caps q e).1 (h caps q e).2
theorem FnOk.of {P:Program} {f:FuncId} {fn:Func} {s:List PV→Option Ans} (hm:P.follows .mixedOrders=true) {E:Env} (hE:EnvOk P E) (hf:P.funcs[f]? = some fn) (D:Opt) (m:Nat) (hok:funcOk D.toOrd fn m=true)
  (h:∀args r,s args=some r→args.length≤m∧(Met r.pre→vcF P E D fn (start args) r)):FnOk P f s :=
 fun args r e=>fn_sound hm hE hf D m hok (h args r e).1 (h args r e).2
theorem FnOk.ofW {P:Program} {f:FuncId} {fn:Func} {s:List PV→Option Ans} (hm:P.follows .mixedOrders=true) {E:Env} (hE:EnvOk P E) (hf:P.funcs[f]? = some fn) (D:Opt) (m:Nat) (hok:funcOk D.toOrd fn m=true)
  (h:∀args r,s args=some r→args.length≤m∧(Met r.pre→∃(σ : Ren) (s:St),Weak σ (start args) s∧vcW P E D fn s r)):FnOk P f s :=
 fun args r e=>fn_soundW hm hE hf D m hok (h args r e).1 (h args r e).2
end Go.Ex
namespace Go
open Go.Ex
theorem lt_auto {x y:Nat} (h:Nat.blt x y=true):x < y:=by simpa using h
theorem Wo {σ : Ren} {s:St} {l:List (Nat×PV)} {H:Heap} {nx:Nat} {ls:List (List (Nat×PV))} (h2:all2 (weakB s (stOf l H nx ls) σ) σ H) (h3:weakF s (stOf l H nx ls) σ s.fr l) (h4:weakFs s (stOf l H nx ls) σ s.sv ls) (h1:(σ.filterMap id).Nodup:=by simp):Weak σ s (stOf l H nx ls):=Weak.of h1 h2 h3 h4
theorem rq {α β : Sort _} {a : α} {b : β}:a=a∧b=b:=⟨rfl,rfl⟩
theorem pP {α : Type} {a : α} {i f x y:Nat} {b:Blk} (h:Nat.blt x y=true:=by rfl):a=a∧i=i∧f=f∧x < y∧∃b',some b=some b':=⟨rfl,rfl,rfl,lt_auto h,_,rfl⟩
theorem qQ:True:=trivial
theorem qW {α β γ : Type} {a : α} {b : β} {n:Nat} {f:Nat→γ}:a=a∧b=b∧∀i,i < n→f i=f i:=⟨rfl,rfl,fun _ _=>rfl⟩
theorem qZ {a b e x y:Nat} {c d:Bool} {p:Prop} (q:p) (h:Nat.blt x y=true:=by rfl):x < y∧a=a∧b=b∧c=c∧d=d∧e=e∧p:=⟨lt_auto h,rfl,rfl,rfl,rfl,rfl,q⟩
theorem qY {a b e x y:Nat} {c d:Bool} {u:PV} {v:Bool} (h:Nat.blt x y=true:=by rfl):x < y∧a=a∧b=b∧c=c∧d=d∧e=e∧(u=u∧v=v)∧True:=qZ ⟨rq,qQ⟩ h
theorem qJ {a b e x y:Nat} {c d:Bool} {u u2:PV} {v v2:Bool} (h:Nat.blt x y=true:=by rfl):x < y∧a=a∧b=b∧c=c∧d=d∧e=e∧(u=u∧v=v)∧(u2=u2∧v2=v2)∧True:=qZ ⟨rq,rq,qQ⟩ h
theorem qX {a b e x y:Nat} {c d:Bool} {u u2 u3:PV} {v v2 v3:Bool} (h:Nat.blt x y=true:=by rfl):x < y∧a=a∧b=b∧c=c∧d=d∧e=e∧(u=u∧v=v)∧(u2=u2∧v2=v2)∧(u3=u3∧v3=v3)∧True:=qZ ⟨rq,rq,rq,qQ⟩ h
theorem qK {a b e x y:Nat} {c d:Bool} {u u2 u3 u4 u5 u6:PV} {v v2 v3 v4 v5 v6:Bool} (h:Nat.blt x y=true:=by rfl):x < y∧a=a∧b=b∧c=c∧d=d∧e=e∧(u=u∧v=v)∧(u2=u2∧v2=v2)∧(u3=u3∧v3=v3)∧(u4=u4∧v4=v4)∧(u5=u5∧v5=v5)∧(u6=u6∧v6=v6)∧True:=qZ ⟨rq,rq,rq,rq,rq,rq,qQ⟩ h
end Go
namespace Go.Num
open Go
def bvL (l:List UInt8):Nat:=l.foldl (fun a b=>a*256+b.toNat) 0
def bv (b:ByteArray):Nat:=bvL b.data.toList
theorem foldl_bv:∀(l:List UInt8) (a:Nat),l.foldl (fun a b=>a*256+b.toNat) a=a*256^l.length+bvL l
 |[],a=>by simp [bvL]
 |x::l,a=>by
  have h2:bvL (x::l)=(0*256+x.toNat)*256^l.length+bvL l:=foldl_bv l _
  rw [List.foldl_cons,foldl_bv l,h2]
  simp only [List.length_cons,Nat.pow_succ,Nat.add_mul,Nat.zero_mul,Nat.zero_add]
  rw [show a*(256^l.length*256)=a*256*256^l.length by rw [Nat.mul_comm (256^l.length),Nat.mul_assoc]]
  omega
theorem bvL_cons (x:UInt8) (l:List UInt8):bvL (x::l)=x.toNat*256^l.length+bvL l:=by
 rw [bvL,List.foldl_cons,foldl_bv]
 simp
theorem bvL_append (l m:List UInt8):bvL (l++m)=bvL l*256^m.length+bvL m:=by
 rw [bvL,List.foldl_append,foldl_bv]
 rfl
theorem bvL_lt:∀(l:List UInt8),bvL l < 256^l.length
 |[]=>by simp [bvL]
 |x::l=>by
  rw [bvL_cons,List.length_cons,Nat.pow_succ]
  have h1:=bvL_lt l
  have h2:x.toNat≤255:=by have:=x.toNat_lt;omega
  have:=Nat.mul_le_mul_right (256^l.length) h2
  omega
def digs (n:Nat):List UInt8:=if n=0 then [] else digs (n / 256)++[UInt8.ofNat (n%256)]
termination_by n
decreasing_by omega
def numB (n:Nat):ByteArray:=⟨(digs n).toArray⟩
theorem digs_zero:digs 0=[]:=by unfold digs;simp
theorem digs_pos {n:Nat} (h:n≠0):digs n=digs (n / 256)++[UInt8.ofNat (n%256)]:=by rw [digs];simp [h]
theorem bvL_digs (n:Nat):bvL (digs n)=n:=by
 induction n using Nat.strongRecOn with
 |_ n ih =>
  by_cases h:n=0
  ·subst h;simp [digs_zero,bvL]
  ·rw [digs_pos h,bvL_append,ih (n / 256) (by omega)]
   simp [bvL]
   omega
theorem bv_numB (n:Nat):bv (numB n)=n:=by simp [bv,numB,bvL_digs]
def lead (l:List UInt8):Bool:=match l with
 |[]=>true
 |x::_=>x != 0
theorem digs_lead (n:Nat):lead (digs n)=true:=by
 induction n using Nat.strongRecOn with
 |_ n ih =>
  by_cases h:n=0
  ·subst h;simp [digs_zero,lead]
  ·rw [digs_pos h]
   by_cases h2:n / 256=0
   ·rw [h2,digs_zero]
    simp only [List.nil_append,lead,bne_iff_ne,ne_eq]
    intro e
    have:=congrArg UInt8.toNat e
    simp at this
    omega
   ·have:=ih (n / 256) (by omega)
    cases hd:digs (n / 256) with
    |nil =>
     have:=bvL_digs (n / 256)
     rw [hd] at this
     simp [bvL] at this
     omega
    |cons x r=>rw [hd] at this;simpa [lead] using this
theorem bvL_inj:∀{l m:List UInt8},l.length=m.length→bvL l=bvL m→l=m
 |[],[],_,_=>rfl
 |x::l,y::m,hl,h=>by
  simp only [List.length_cons,Nat.add_right_cancel_iff] at hl
  rw [bvL_cons,bvL_cons,hl] at h
  have h1:=bvL_lt l
  have h2:=bvL_lt m
  rw [hl] at h1
  have hp:0 < 256^m.length:=Nat.pow_pos (by decide)
  have hxy:x.toNat=y.toNat:=by
   have e1:(x.toNat*256^m.length+bvL l) / 256^m.length=x.toNat:=by
    rw [Nat.mul_comm,Nat.mul_add_div hp,Nat.div_eq_of_lt h1,Nat.add_zero]
   have e2:(y.toNat*256^m.length+bvL m) / 256^m.length=y.toNat:=by
    rw [Nat.mul_comm,Nat.mul_add_div hp,Nat.div_eq_of_lt h2,Nat.add_zero]
   rw [←e1,h,e2]
  have:x=y:=UInt8.toNat_inj.1 hxy
  subst this
  rw [bvL_inj hl (by omega)]
 |[],_::_,hl,_=>by simp at hl
 |_::_,[],hl,_=>by simp at hl
theorem lead_ge {x:UInt8} {l:List UInt8} (h:lead (x::l)=true):256^l.length≤bvL (x::l):=by
 rw [bvL_cons]
 have:x.toNat≠0:=fun e=>by
  have:x=0:=UInt8.toNat_inj.1 (by simpa using e)
  subst this
  simp [lead] at h
 have:=Nat.mul_le_mul_right (256^l.length) (show 1≤x.toNat by omega)
 omega
theorem lead_inj {l m:List UInt8} (hl:lead l=true) (hm:lead m=true) (h:bvL l=bvL m):l=m:=by
 refine bvL_inj ?_ h
 have key:∀{l m:List UInt8},lead l=true→bvL l=bvL m→l.length≤m.length:=by
  intro l m hl h
  cases l with
  |nil=>simp
  |cons x l =>
   have h1:=lead_ge hl
   have h2:=bvL_lt m
   have:256^l.length < 256^m.length:=by omega
   have:=(Nat.pow_lt_pow_iff_right (show 1 < 256 by decide)).1 this
   simp;omega
 exact Nat.le_antisymm (key hl h) (key hm h.symm)
theorem lead_digs {l:List UInt8} (h:lead l=true):digs (bvL l)=l:=lead_inj (digs_lead _) h (bvL_digs _)
theorem bvL_strip:∀(l:List UInt8),bvL (l.dropWhile (·==0))=bvL l∧lead (l.dropWhile (·==0))=true
 |[]=>⟨rfl,rfl⟩
 |x::l=>by
  rw [List.dropWhile_cons]
  split
  ·rename_i h
   have:x=0:=by simpa using h
   subst this
   obtain⟨h1,h2⟩:=bvL_strip l
   exact⟨by rw [h1,bvL_cons];simp,h2⟩
  ·rename_i h
   exact⟨rfl,by simpa [lead] using h⟩
theorem ba_ext {a b:ByteArray} (h:a.data.toList=b.data.toList):a=b:=by
 cases a;cases b;simpa using h
theorem canon {b:ByteArray} (h:lead b.data.toList=true):numB (bv b)=b:=ba_ext (by simp [numB,bv,lead_digs h])
theorem ba_size (x:ByteArray):x.size=x.data.toList.length:=by rw [Array.length_toList];rfl
theorem ba_loop (b:ByteArray):∀(k i:Nat) (acc:List UInt8),b.size - i=k→ByteArray.toList.loop b i acc=acc.reverse++b.data.toList.drop i
 |0,i,acc,h=>by
  have hs:=ba_size b
  rw [ByteArray.toList.loop,if_neg (by omega),List.drop_eq_nil_of_le (by omega),List.append_nil]
 |k+1,i,acc,h=>by
  have hs:=ba_size b
  have hi:i < b.data.toList.length:=by omega
  rw [ByteArray.toList.loop,if_pos (by omega),ba_loop b k (i+1) _ (by omega),List.drop_eq_getElem_cons hi]
  have:b.get! i=b.data.toList[i]:=by
   rw [Array.getElem_toList]
   exact getElem!_pos b.data i (by simpa using hi)
  rw [this]
  simp
theorem ba_toList (b:ByteArray):b.toList=b.data.toList:=by
 rw [ByteArray.toList,ba_loop b _ 0 [] rfl];simp
theorem ba_extract (x:ByteArray) (i j:Nat):(x.extract i j).data.toList=(x.data.toList.take j).drop i:=by
 rw [ByteArray.data_extract]
 simp [List.extract_eq_take_drop,List.drop_take]
theorem some_of_cmp {x:ByteArray} (h:(!(x.toList==(⟨#[]⟩:ByteArray).toList))=true):x.data.toList≠[]:=by
 rw [ba_toList,ba_toList] at h
 intro e
 rw [e] at h
 cases h
theorem none_of_cmp {x:ByteArray} (h:(!(x.toList==(⟨#[]⟩:ByteArray).toList)) = !true):x.data.toList=[]:=by
 rw [ba_toList,ba_toList] at h
 cases hx:x.data.toList with
 |nil=>rfl
 |cons y r=>rw [hx] at h;cases h
end Go.Num
namespace Go.Proofs
open Go Go.Ex Go.Num
set_option maxRecDepth 100000
theorem orders:Tryz.prog.follows .mixedOrders=true:=by kernel_rfl
def c193:List PV→Option Ans
 |[.val (.string b)]=>some ⟨none,.val (.string (numB (bv b))),[]⟩
 |_=>none
theorem ok193:funcOk {} Tryz.f193 1=true:=by kernel_rfl
theorem f193:FnOk Tryz.prog 193 c193:=by
 refine FnOk.of orders (mkE_ok (l:=[]) (own:=[]) (inl:=[]) (by simp) (by simp)) Tryz.func193 {} 1 ok193 fun args r e=>?_
 unfold c193 at e
 split at e
 ·rename_i b
  cases e
  refine⟨by simp,fun _=>?_⟩
  with_unfolding_all refine⟨ByteArray,fun x=>bv x=bv b,fun x=>stOf [(0,.val (.string x))] [] 0 [],fun x=>x.size,⟨b,[],rfl,Wo trivial ⟨rfl,qQ⟩ trivial⟩,fun x (hx:bv x=bv b)=>?_⟩
  have hl:=ba_size x
  with_unfolding_all refine⟨fun h1=>⟨?_,?_⟩,fun h1=>?_⟩
  ·have h1:=some_of_cmp h1
   have:=List.length_pos_iff.2 h1
   omega
  ·have h1:=some_of_cmp h1
   cases hd:x.data.toList with
   |nil=>exact absurd hd h1
   |cons y r =>
    rw [hd,List.length_cons] at hl
    with_unfolding_all refine⟨fun h2=>⟨?_,?_⟩,fun h2=>?_⟩
    ·omega
    ·with_unfolding_all refine⟨_,[],?_,?_,Wo trivial ⟨rfl,qQ⟩ trivial⟩
     ·have hy:y=0:=by rw [hd] at h2;simp at h2;exact UInt8.toNat_inj.1 (by simpa using h2)
      show bv _=bv b
      rw [←hx,bv,ba_extract,bv,hd,hl,hy]
      simp [bvL_cons]
     ·show ByteArray.size _ < x.size
      rw [ba_size,ba_extract,hd]
      simp
      omega
    ·with_unfolding_all refine⟨?_,rfl⟩
     rw [←hx,canon]
     rw [hd] at h2 ⊢
     simp only [lead,bne_iff_ne,ne_eq]
     rintro rfl
     simp at h2
  ·have h1:=none_of_cmp h1
   with_unfolding_all refine⟨nofun,fun _=>⟨?_,rfl⟩⟩
   rw [←hx,canon]
   rw [h1]
   rfl
 ·cases e
end Go.Proofs
namespace Go.Num
open Go Go.Ex
def B:Nat:=4294967296
def digU (N:Nat):Nat→List PV:=fun j=>[.val (.int .u32 ((N / B^j%B:Nat):Int))]
def nl (N:Nat):Nat:=if N=0 then 0 else nl (N / B)+1
termination_by N
decreasing_by rw [B];omega
def rowU (N:Nat):PV:=.rs 1 (nl N) (digU N)
def limb:List PV→Nat
 |[.val (.int .u32 k)]=>k.toNat
 |_=>0
def valG:Nat→(Nat→List PV)→Nat
 |0,_=>0
 |n+1,g=>valG n g+limb (g n)*B^n
def isU (n:Nat) (g:Nat→List PV):Prop:=∀i,i < n→∃k:Nat,k < B∧g i=[.val (.int .u32 k)]
theorem B_pos (n:Nat):0 < B^n:=Nat.pow_pos (by decide)
theorem isU_dig (n N:Nat):isU n (digU N):=fun i _=>⟨_,Nat.mod_lt _ (by decide),rfl⟩
theorem valG_lt {n:Nat} {g:Nat→List PV} (h:isU n g):valG n g < B^n:=by
 induction n with
 |zero=>simp [valG]
 |succ n ih =>
  obtain⟨k,hk,e⟩:=h n (by omega)
  have:=ih fun i hi=>h i (by omega)
  rw [valG,e,Nat.pow_succ]
  simp only [limb,Int.toNat_natCast]
  have h2:=Nat.mul_le_mul_right (B^n) (show k≤B - 1 by omega)
  have h3:(B - 1)*B^n+B^n=B^n*B:=by rw [Nat.mul_comm (B^n) B,←Nat.succ_mul];rfl
  omega
theorem valG_dig {n:Nat} {g:Nat→List PV} (h:isU n g):∀i,i < n→g i=digU (valG n g) i:=by
 induction n with
 |zero=>intro i hi;omega
 |succ n ih =>
  intro i hi
  obtain⟨k,hk,e⟩:=h n (by omega)
  have hs:isU n g:=fun i hi=>h i (by omega)
  have hlt:=valG_lt hs
  rcases Nat.lt_or_ge i n with hin|hin
  ·rw [ih hs i hin]
   unfold digU
   have:valG (n+1) g / B^i%B=valG n g / B^i%B:=by
    rw [valG]
    obtain⟨d,rfl⟩:∃d,n=i+1+d:=⟨n - i - 1,by omega⟩
    rw [Nat.pow_add,Nat.pow_succ,←Nat.mul_assoc,show limb (g (i+1+d))*(B^i*B)*B^d=B^i*(B*(limb (g (i+1+d))*B^d)) by
     rw [Nat.mul_comm (limb _) (B^i*B),Nat.mul_assoc,Nat.mul_assoc]]
    rw [Nat.add_mul_div_left _ _ (B_pos i),Nat.add_mul_mod_self_left]
   rw [this]
  ·obtain rfl:i=n:=by omega
   rw [e]
   unfold digU
   have:valG (i+1) g / B^i%B=k:=by
    rw [valG,e]
    simp only [limb,Int.toNat_natCast]
    rw [Nat.add_mul_div_right _ _ (B_pos i),Nat.div_eq_of_lt hlt,Nat.zero_add,Nat.mod_eq_of_lt hk]
   rw [this]
theorem valG_digU (N:Nat):∀n,valG n (digU N)=N%B^n
 |0=>by simp [valG,Nat.mod_one]
 |n+1=>by
  rw [valG,valG_digU N n]
  simp only [digU,limb,Int.toNat_natCast]
  rw [Nat.pow_succ,Nat.mod_mul,Nat.mul_comm (B^n)]
theorem nl_spec (N:Nat):N < B^nl N∧(N≠0→B^(nl N - 1)≤N∧0 < nl N):=by
 induction N using Nat.strongRecOn with
 |_ N ih =>
  unfold nl
  split
  ·rename_i h;subst h;simp
  ·rename_i h
   obtain⟨h1,h2⟩:=ih (N / B) (by rw [B];omega)
   have h3:N < B^(nl (N / B)+1):=by
    rw [Nat.pow_succ]
    have:=Nat.div_add_mod N B
    have:=Nat.mod_lt N (show 0 < B by decide)
    have:=Nat.mul_le_mul_right B (show N / B+1≤B^nl (N / B) by omega)
    rw [Nat.succ_mul,Nat.mul_comm (N / B)] at this
    omega
   refine⟨h3,fun _=>⟨?_,by omega⟩⟩
   rw [Nat.add_sub_cancel]
   by_cases hz:N / B=0
   ·rw [hz];unfold nl;simp;omega
   ·obtain⟨h4,h5⟩:=h2 hz
    have:=Nat.div_add_mod N B
    obtain⟨k,hk⟩:∃k,nl (N / B)=k+1:=⟨nl (N / B) - 1,by omega⟩
    rw [hk,Nat.pow_succ]
    rw [hk,Nat.add_sub_cancel] at h4
    have:=Nat.mul_le_mul_right B h4
    rw [Nat.mul_comm (N / B)] at this
    omega
theorem nl_zero:nl 0=0:=by unfold nl;simp
theorem nl_le {N k:Nat} (h:N < B^k):nl N≤k:=by
 by_cases h0:N=0
 ·subst h0;rw [nl_zero];omega
 ·obtain⟨_,h2⟩:=nl_spec N
  obtain⟨h3,h4⟩:=h2 h0
  have:B^(nl N - 1) < B^k:=by omega
  have:=(Nat.pow_lt_pow_iff_right (show 1 < B by decide)).1 this
  omega
theorem nl_eq {N k:Nat} (h1:N < B^k) (h2:0 < k→B^(k - 1)≤N):nl N=k:=by
 refine Nat.le_antisymm (nl_le h1) ?_
 rcases Nat.eq_zero_or_pos k with rfl|hk
 ·omega
 ·have:=h2 hk
  obtain⟨h3,_⟩:=nl_spec N
  have:B^(k - 1) < B^nl N:=by omega
  have:=(Nat.pow_lt_pow_iff_right (show 1 < B by decide)).1 this
  omega
theorem val_rowU (N:Nat):valG (nl N) (digU N)=N:=by rw [valG_digU,Nat.mod_eq_of_lt (nl_spec N).1]
def rdU:PV→Option (Nat×(Nat→List PV))
 |.rs 1 n g=>some (n,g)
 |.val (.slice none 0 0)=>some (0,digU 0)
 |_=>none
end Go.Num
namespace Go.Num
open Go Go.Ex
theorem wrap64 {x:Int} (h1 : -9223372036854775808≤x) (h2:x < 9223372036854775808):IntKind.i64.wrap x=x:=by
 have e:(2:Int)^64=18446744073709551616:=by decide
 have e':(2:Int)^(64 - 1)=9223372036854775808:=by decide
 simp only [IntKind.wrap,IntKind.bits,IntKind.signed,e,e',Bool.true_and,decide_eq_true_eq]
 omega
theorem wrapU32 (x:Int):IntKind.u32.wrap x=x%4294967296:=by
 have e:(2:Int)^32=4294967296:=by decide
 simp only [IntKind.wrap,IntKind.bits,IntKind.signed,e,Bool.false_and,Bool.false_eq_true,if_false]
theorem wrapU64 (x:Int):IntKind.u64.wrap x=x%18446744073709551616:=by
 have e:(2:Int)^64=18446744073709551616:=by decide
 simp only [IntKind.wrap,IntKind.bits,IntKind.signed,e,Bool.false_and,Bool.false_eq_true,if_false]
theorem wrapU8 (x:Int):IntKind.u8.wrap x=x%256:=by
 have e:(2:Int)^8=256:=by decide
 simp only [IntKind.wrap,IntKind.bits,IntKind.signed,e,Bool.false_and,Bool.false_eq_true,if_false]
theorem or_add {a c k:Nat} (h:a < 2^k):a ||| c*2^k=a+c*2^k:=by
 have:=Nat.shiftLeft_add_eq_or_of_lt h c
 rw [Nat.shiftLeft_eq] at this
 rw [Nat.or_comm,←this,Nat.add_comm]
theorem or32 {a c k:Nat} (h:a < 2^k) (h2:a+c*2^k < 2^32):((BitVec.ofInt 32 (a:Int) ||| BitVec.ofInt 32 ((c*2^k:Nat):Int)).toNat)=a+c*2^k:=by
 have ha:a < 2^32:=by omega
 have hc:c*2^k < 2^32:=by omega
 rw [BitVec.toNat_or,BitVec.ofInt_natCast,BitVec.ofInt_natCast,BitVec.toNat_ofNat,BitVec.toNat_ofNat,Nat.mod_eq_of_lt ha,Nat.mod_eq_of_lt hc,or_add h]
theorem or64 {a c k:Nat} (h:a < 2^k) (h2:a+c*2^k < 2^64):((BitVec.ofInt 64 ((c*2^k:Nat):Int) ||| BitVec.ofInt 64 (a:Int)).toNat)=a+c*2^k:=by
 have ha:a < 2^64:=by omega
 have hc:c*2^k < 2^64:=by omega
 rw [BitVec.toNat_or,BitVec.ofInt_natCast,BitVec.ofInt_natCast,BitVec.toNat_ofNat,BitVec.toNat_ofNat,Nat.mod_eq_of_lt ha,Nat.mod_eq_of_lt hc,Nat.or_comm,or_add h]
theorem B_256 (q:Nat):B^q=256^(4*q):=by rw [Nat.pow_mul];rfl
theorem pow_split (i:Nat):256^i=B^(i / 4)*256^(i%4):=by
 rw [B_256,←Nat.pow_add,Nat.div_add_mod]
theorem r256 (r:Nat) (h:r < 4):256^r*256≤B:=by
 have:256^(r+1)≤256^4:=Nat.pow_le_pow_right (by decide) (by omega)
 rw [Nat.pow_succ] at this
 exact this
theorem low_limb (N i:Nat):N%256^i / B^(i / 4)%B=N / B^(i / 4)%256^(i%4):=by
 rw [pow_split i,Nat.mod_mul_right_div_self,Nat.mod_eq_of_lt (Nat.lt_of_lt_of_le (Nat.mod_lt _ (Nat.pow_pos (by decide))) _)]
 have:=r256 (i%4) (by omega)
 omega
theorem next_limb (N i:Nat):N%256^(i+1) / B^(i / 4)%B=N%256^i / B^(i / 4)%B+N / 256^i%256*256^(i%4):=by
 rw [low_limb,Nat.pow_succ,pow_split i,Nat.mul_assoc,Nat.mod_mul_right_div_self]
 have h:=r256 (i%4) (by omega)
 rw [Nat.mod_eq_of_lt (Nat.lt_of_lt_of_le (Nat.mod_lt _ (Nat.mul_pos (Nat.pow_pos (by decide)) (by decide))) h)]
 rw [Nat.mod_mul,Nat.div_div_eq_div_mul,Nat.mul_comm (256^(i%4))]
theorem other_limb (N i j:Nat) (h:j≠i / 4):N%256^(i+1) / B^j%B=N%256^i / B^j%B:=by
 rcases Nat.lt_or_ge j (i / 4) with hj|hj
 ·have key:∀k,i≤k→N%256^k / B^j%B=N / B^j%B:=by
   intro k hk
   obtain⟨d,hd⟩:∃d,k=4*(j+1)+d:=⟨k - 4*(j+1),by omega⟩
   rw [hd,Nat.pow_add,←B_256,Nat.pow_succ,Nat.mul_assoc,Nat.mod_mul_right_div_self,Nat.mod_mul_right_mod]
  rw [key i (by omega),key (i+1) (by omega)]
 ·have key:∀k,k≤i+1→N%256^k / B^j%B=0:=by
   intro k hk
   have h1:N%256^k < 256^k:=Nat.mod_lt _ (Nat.pow_pos (by decide))
   have h2:256^k≤B^j:=by rw [B_256];exact Nat.pow_le_pow_right (by decide) (by omega)
   rw [Nat.div_eq_of_lt (by omega),Nat.zero_mod]
  rw [key i (by omega),key (i+1) (by omega)]
theorem digs_get (N:Nat):∀i,i < (digs N).length→((digs N)[(digs N).length - 1 - i]?.getD 0).toNat=N / 256^i%256:=by
 induction N using Nat.strongRecOn with
 |_ N ih =>
  intro i hi
  by_cases h:N=0
  ·subst h;rw [digs_zero] at hi;simp at hi
  ·rw [digs_pos h] at hi ⊢
   simp only [List.length_append,List.length_singleton] at hi ⊢
   cases i with
   |zero =>
    simp
   |succ i =>
    rw [List.getElem?_append_left (by omega),show(digs (N / 256)).length+1 - 1 - (i+1)=(digs (N / 256)).length - 1 - i by omega,ih (N / 256) (by omega) i (by omega),Nat.pow_succ,Nat.div_div_eq_div_mul,Nat.mul_comm 256]
theorem numB_len (N:Nat):(numB N).size=(digs N).length:=by rw [ba_size];rfl
theorem numB_lt (N:Nat):N < 256^(numB N).size:=by
 rw [numB_len]
 have:=bvL_lt (digs N)
 rwa [bvL_digs] at this
theorem numB_ge {N:Nat} (h:N≠0):256^((numB N).size - 1)≤N∧0 < (numB N).size:=by
 rw [numB_len]
 have h1:=digs_lead N
 have h2:=bvL_digs N
 cases hd:digs N with
 |nil=>rw [hd] at h2;simp [bvL] at h2;omega
 |cons x l =>
  rw [hd] at h1 h2
  have:=lead_ge h1
  rw [h2] at this
  simpa using this
theorem numB_size (b:ByteArray):(numB (bv b)).size≤b.size:=by
 have h:numB (bv b)=⟨(b.data.toList.dropWhile (·==0)).toArray⟩:=by
  have:=canon (b:=⟨(b.data.toList.dropWhile (·==0)).toArray⟩) (by simpa using (bvL_strip b.data.toList).2)
  rw [←this]
  congr 1
  simp [bv,(bvL_strip b.data.toList).1]
 rw [h,ba_size,ba_size]
 exact(List.dropWhile_sublist _).length_le
theorem nl_bytes (N:Nat):nl N=((numB N).size+3) / 4:=by
 refine nl_eq ?_ fun h=>?_
 ·have:=numB_lt N
  rw [B_256]
  exact Nat.lt_of_lt_of_le this (Nat.pow_le_pow_right (by decide) (by omega))
 ·by_cases h0:N=0
  ·subst h0
   have:(numB 0).size=0:=by rw [numB_len,digs_zero];rfl
   omega
  ·have:=(numB_ge h0).1
   rw [B_256]
   exact Nat.le_trans (Nat.pow_le_pow_right (by decide) (by omega)) this
end Go.Num
namespace Go.Num
open Go Go.Ex
theorem rd_weak {x:PV} {r:Nat×(Nat→List PV)} (h:rdU x=some r) (hu:isU r.1 r.2) {s s':St} {σ : Ren}:weakV s s' σ 3 x (.rs 1 r.1 (digU (valG r.1 r.2))):=by
 unfold rdU at h
 split at h
 ·cases h;exact⟨rfl,rfl,fun i hi=>(valG_dig hu i hi).symm⟩
 ·cases h;exact⟨rfl,rfl⟩
 ·cases h
theorem nl_top {N k:Nat} (h:N < B^(k+1)) (h2:N / B^k%B≠0):nl N=k+1:=by
 refine nl_eq h fun _=>?_
 rw [Nat.add_sub_cancel]
 rcases Nat.lt_or_ge N (B^k) with h3|h3
 ·rw [Nat.div_eq_of_lt h3] at h2;simp at h2
 ·exact h3
theorem lt_of_top {N k:Nat} (h:N < B^(k+1)) (h2:N / B^k%B=0):N < B^k:=by
 rw [Nat.pow_succ,Nat.mul_comm] at h
 have:N / B^k < B:=Nat.div_lt_of_lt_mul (by rw [Nat.mul_comm];exact h)
 rw [Nat.mod_eq_of_lt this] at h2
 rcases Nat.lt_or_ge N (B^k) with h3|h3
 ·exact h3
 ·have:=Nat.div_le_div_right (c:=B^k) h3
  rw [Nat.div_self (B_pos k)] at this
  omega
abbrev tame (n:Nat):Prop:=n≤4398046511104
end Go.Num
namespace Go.Num
theorem beq0 {x:Nat} (h:((x:Int)==0)=true):x=0:=by have:=beq_iff_eq.1 h;omega
theorem bne0 {x:Nat} (h:((x:Int)==0)=false):x≠0:=fun e=>by subst e;simp at h
theorem B_val:B=4294967296:=rfl
end Go.Num
namespace Go.Num
def cmpN (a b:Nat):Int:=if a < b then -1 else if b < a then 1 else 0
theorem div_step (N k:Nat):N / B^k=B*(N / B^(k+1))+N / B^k%B:=by
 have h:=Nat.div_add_mod (N / B^k) B
 rw [Nat.div_div_eq_div_mul] at h
 rw [Nat.pow_succ]
 exact h.symm
theorem lt_of_div {N M k:Nat} (h:N / B^k < M / B^k):N < M:=by
 rcases Nat.lt_or_ge N M with h2|h2
 ·exact h2
 ·have:=Nat.div_le_div_right (c:=B^k) h2
  omega
theorem lt_of_nl {N M:Nat} (h:nl N < nl M):N < M:=by
 have h1:=(nl_spec N).1
 have h0:M≠0:=fun e=>by subst e;rw [nl_zero] at h;omega
 have h2:=((nl_spec M).2 h0).1
 have:B^nl N≤B^(nl M - 1):=Nat.pow_le_pow_right (by decide) (by omega)
 omega
end Go.Num
namespace Go.Num
theorem bneT {n m:Nat} (h:(!((n:Int)==m))=true):n≠m:=fun e=>by subst e;simp at h
theorem bneF {n m:Nat} (h:(!((n:Int)==m))=false):n=m:=by
 have:((n:Int)==m)=true:=by simpa using h
 have:=beq_iff_eq.1 this
 omega
theorem beqT {n m:Nat} (h:((n:Int)==m)=true):n=m:=by
 have:=beq_iff_eq.1 h
 omega
theorem beqF {n m:Nat} (h:((n:Int)==m)=false):n≠m:=fun e=>by subst e;simp at h
theorem ltT {n m:Int} (h:decide (n < m)=true):n < m:=of_decide_eq_true h
theorem ltF {n m:Int} (h:decide (n < m)=false):m≤n:=Int.not_lt.1 (of_decide_eq_false h)
end Go.Num
namespace Go.Proofs
open Go Go.Ex Go.Num
set_option maxRecDepth 100000
def c141:List PV→Option Ans
 |[.val (.string b)]=>some ⟨some (b.size≤1099511627776),rowU (bv b),[]⟩
 |_=>none
theorem ok141:funcOk {} Tryz.f141 1=true:=by kernel_rfl
theorem f141:FnOk Tryz.prog 141 c141:=by
 refine FnOk.ofW orders (mkE_ok (l:=[(193,c193)]) (own:=[]) (inl:=[]) (by simp [f193]) (by simp)) Tryz.func141 {} 1 ok141 fun args r e=>?_
 unfold c141 at e
 split at e
 ·rename_i b
  cases e
  refine⟨by simp,fun hm=>?_⟩
  have hb:b.size≤1099511627776:=hm _ rfl
  refine⟨[],stOf [(0,.val (.string b))] [] 0 [],Wo trivial ⟨rfl,qQ⟩ trivial,?_⟩
  have hL:=numB_size b
  with_unfolding_all refine⟨by decide,?_⟩
  rw [show IntKind.i64.wrap ((IntKind.i64.wrap (IntKind.i64.wrap (((numB (bv b)).size:Int)+4) - 1)).tdiv 4)=((((numB (bv b)).size+3) / 4:Nat):Int) by
   simp (disch:=omega) only [wrap64,Int.tdiv_eq_ediv_of_nonneg];omega]
  generalize hn:((numB (bv b)).size+3) / 4=m
  generalize hN:bv b=N at hL hn
  with_unfolding_all refine⟨⟨by omega,by omega,by omega,by show(4:Int)*_≤_;omega⟩,Nat,fun i=>i≤(numB N).size,fun i=>stOf [(0,.val (.string (numB N))),(3,.sl 0 0 0 m),(15,.val (goInt (numB N).size)),(16,.val (goInt i))]
   [⟨139,1,0,false,false,m,digU (N%256^i)⟩] 1 [],fun i=>(numB N).size - i,⟨0,[some 0],by omega,Wo ⟨qZ (fun i hi=>?_),qQ⟩ ⟨rfl,pP,rfl,rfl,qQ⟩ trivial⟩,fun i hi=>?_⟩
  ·show digU _ i=[PV.val (.int .u32 0)]
   simp [digU,Nat.mod_one]
  ·replace hi:i≤(numB N).size:=hi
   with_unfolding_all refine⟨fun h1=>?_,fun h1=>?_⟩
   ·replace h1:i < (numB N).size:=by simpa using h1
    with_unfolding_all refine⟨by decide,?_⟩
    rw [show IntKind.i64.wrap ((i:Int).tdiv 4)=((i / 4:Nat):Int) by simp (disch:=omega) only [wrap64,Int.tdiv_eq_ediv_of_nonneg];omega,
     show IntKind.i64.wrap (IntKind.i64.wrap (((numB N).size:Int) - 1) - i)=(((numB N).size - 1 - i:Nat):Int) by simp (disch:=omega) only [wrap64];omega]
    have htm:(i:Int).tmod 4=((i%4:Nat):Int):=by rw [Int.tmod_eq_emod_of_nonneg (by omega)];omega
    with_unfolding_all refine⟨⟨by omega,by omega⟩,⟨by omega,by omega⟩,by decide,?_,?_⟩
    ·rw [htm,wrap64 (by omega) (by omega)];omega
    ·have hby:((numB N).data.toList[(((numB N).size - 1 - i:Nat):Int).toNat]?.getD 0).toNat=N / 256^i%256:=by
      have:=digs_get N i (by rw [←numB_len];exact h1)
      rw [←numB_len] at this
      exact this
     have hr:=r256 (i%4) (by omega)
     have hb2:N / 256^i%256*256^(i%4) < B:=by
      have h3:N / 256^i%256 < 256:=Nat.mod_lt _ (by decide)
      have h4:0 < 256^(i%4):=Nat.pow_pos (by decide)
      calc N / 256^i%256*256^(i%4) < 256*256^(i%4):=Nat.mul_lt_mul_of_pos_right h3 h4
       _≤B:=by omega
     have h2p:(2:Nat)^(8*(i%4))=256^(i%4):=by rw [Nat.pow_mul]
     rw [show IntKind.u32.wrap (IntKind.u32.wrap (((numB N).data.toList[(((numB N).size - 1 - i:Nat):Int).toNat]?.getD 0).toNat:Int)*2^min (IntKind.i64.wrap (8*(i:Int).tmod 4)).toNat IntKind.u32.bits)=((N / 256^i%256*2^(8*(i%4)):Nat):Int) by
      rw [hby,htm,wrap64 (by omega) (by omega),wrapU32,wrapU32]
      have e1:min (8*((i%4:Nat):Int)).toNat IntKind.u32.bits=8*(i%4):=by simp only [IntKind.bits];omega
      rw [e1]
      have e2:(((N / 256^i%256:Nat):Int)%4294967296)=((N / 256^i%256:Nat):Int):=by omega
      rw [e2]
      have e3:((N / 256^i%256:Nat):Int)*2^(8*(i%4))=((N / 256^i%256*2^(8*(i%4)):Nat):Int):=by push_cast;rfl
      have hB:B=4294967296:=rfl
      rw [e3,h2p]
      omega]
     with_unfolding_all refine⟨⟨by omega,by omega⟩,i+1,[some 0],?_,?_,Wo ⟨qZ (fun j hj=>?_),qQ⟩ ⟨rfl,pP,rfl,?_,qQ⟩ trivial⟩
     ·exact h1
     ·show(numB N).size - (i+1) < (numB N).size - i
      omega
     ·have hB:B=4294967296:=rfl
      have hnx:=next_limb N i
      have hlo:N%256^i / B^(i / 4)%B < 2^(8*(i%4)):=by rw [low_limb,h2p];exact Nat.mod_lt _ (Nat.pow_pos (by decide))
      have hlt:N%256^(i+1) / B^(i / 4)%B < B:=Nat.mod_lt _ (by decide)
      have hor:=or32 (a:=N%256^i / B^(i / 4)%B) (c:=N / 256^i%256) hlo (by rw [h2p];omega)
      show digU _ j=if j=0+(i / 4) then [PV.val (.int .u32 (IntKind.u32.wrap ((BitVec.ofInt 32 ((N%256^i / B^(0+(i / 4))%B:Nat):Int) ||| BitVec.ofInt 32 ((N / 256^i%256*2^(8*(i%4)):Nat):Int)).toNat:Nat)))] else digU _ j
      rw [Nat.zero_add,hor,wrapU32,h2p,←hnx]
      split
      ·rename_i hj2
       subst hj2
       simp only [digU]
       congr 3
       omega
      ·rename_i hj2
       simp only [digU,other_limb N i j hj2]
     ·show PV.val (.int .i64 (IntKind.i64.wrap ((i:Int)+1)))=PV.val (.int .i64 ((i+1:Nat):Int))
      rw [wrap64 (by omega) (by omega)]
      rfl
   ·replace h1:(numB N).size≤i:=by simpa using h1
    have hi2:i=(numB N).size:=by omega
    with_unfolding_all refine⟨[],stOf [(2,rowU N)] [] 0 [],Wo trivial ⟨⟨?_,_,rfl,rfl,rfl,?_,?_⟩,qQ⟩ trivial,?_,rfl⟩
    ·simp
    ·rw [nl_bytes];exact hn.symm
    ·intro j _
     show digU N j=digU (N%256^i) (0+j)
     rw [Nat.zero_add,hi2,Nat.mod_eq_of_lt (numB_lt N)]
    ·rfl
 ·cases e
end Go.Proofs
namespace Go.Proofs
open Go Go.Ex Go.Num
set_option maxRecDepth 100000
def c146:List PV→Option Ans
 |[x]=>(rdU x).map fun r=>⟨some (isU r.1 r.2∧tame r.1),rowU (valG r.1 r.2),[]⟩
 |_=>none
theorem ok146:funcOk {} Tryz.f146 1=true:=by kernel_rfl
theorem f146:FnOk Tryz.prog 146 c146:=by
 refine FnOk.ofW orders (mkE_ok (l:=[]) (own:=[]) (inl:=[]) (by simp) (by simp)) Tryz.func146 {} 1 ok146 fun args r e=>?_
 unfold c146 at e
 split at e
 ·rename_i x
  simp only [Option.map_eq_some_iff] at e
  obtain⟨⟨n,g⟩,hx,rfl⟩:=e
  refine⟨by simp,fun hm=>?_⟩
  obtain⟨hu,hn⟩:=hm _ rfl
  simp only at hu hn ⊢
  have hlt:=valG_lt hu
  have hw:=@rd_weak x _ hx hu
  generalize valG n g=N at *
  refine⟨[],stOf [(0,.rs 1 n (digU N))] [] 0 [],Wo trivial ⟨hw,qQ⟩ trivial,?_⟩
  with_unfolding_all refine⟨Nat,fun k=>k≤n∧N < B^k,fun k=>stOf [(0,.rs 1 k (digU N))] [] 0 [],fun k=>k,⟨n,[],⟨Nat.le_refl _,hlt⟩,Wo trivial ⟨qW,qQ⟩ trivial⟩,fun k hk=>?_⟩
  obtain⟨hk1,hk2⟩:k≤n∧N < B^k:=hk
  have hn':n≤4398046511104:=hn
  cases k with
  |zero =>
   with_unfolding_all refine⟨nofun,fun _=>⟨nofun,fun _=>⟨[],stOf [(2,rowU N)] [] 0 [],Wo trivial ⟨⟨rfl,?_,fun i hi=>?_⟩,qQ⟩ trivial,rfl,rfl⟩⟩⟩
   ·have:N=0:=by simpa using hk2
    rw [this,nl_zero]
   ·rfl
  |succ k =>
   have hk:IntKind.i64.wrap (((k+1:Nat):Int) - 1)=((k:Nat):Int):=by rw [wrap64 (by omega) (by omega)];omega
   with_unfolding_all refine⟨fun _=>⟨?_,?_⟩,fun h1=>?_⟩
   ·rw [hk];omega
   ·rw [hk]
    with_unfolding_all refine⟨fun h2=>⟨⟨by omega,by rw [hk];omega,by rw [hk];omega⟩,k,[],⟨by omega,?_⟩,Nat.lt_succ_self k,Wo trivial ⟨⟨rfl,by rw [hk];omega,fun i hi=>?_⟩,qQ⟩ trivial⟩,fun h2=>⟨[],stOf [(2,rowU N)] [] 0 [],Wo trivial ⟨⟨rfl,?_,fun i hi=>rfl⟩,qQ⟩ trivial,rfl,rfl⟩⟩
    ·replace h2:N / B^k%B=0:=beq0 h2
     exact lt_of_top hk2 h2
    ·show digU N i=digU N (0+i)
     rw [Nat.zero_add]
    ·replace h2:¬N / B^k%B=0:=bne0 h2
     exact(nl_top hk2 h2).symm
   ·simp at h1
 ·cases e
end Go.Proofs
namespace Go.Proofs
open Go Go.Ex Go.Num
set_option maxRecDepth 100000
def c142:List PV→Option Ans
 |[x,y]=>(rdU x).bind fun r=>(rdU y).map fun q=>⟨some ((isU r.1 r.2∧tame r.1∧r.1=nl (valG r.1 r.2))∧isU q.1 q.2∧tame q.1∧q.1=nl (valG q.1 q.2)),.val (goInt (cmpN (valG r.1 r.2) (valG q.1 q.2))),[]⟩
 |_=>none
theorem ok142:funcOk {} Tryz.f142 2=true:=by kernel_rfl
theorem f142:FnOk Tryz.prog 142 c142:=by
 refine FnOk.ofW orders (mkE_ok (l:=[]) (own:=[]) (inl:=[]) (by simp) (by simp)) Tryz.func142 {} 2 ok142 fun args r e=>?_
 unfold c142 at e
 split at e
 ·rename_i x y
  simp only [Option.map_eq_some_iff,Option.bind_eq_some_iff] at e
  obtain⟨⟨n,g⟩,hx,⟨m,g'⟩,hy,rfl⟩:=e
  refine⟨by simp,fun hm=>?_⟩
  obtain⟨⟨hu,hn,hnl⟩,hu',hn',hnl'⟩:=hm _ rfl
  simp only at hu hn hnl hu' hn' hnl' ⊢
  have hlt:=valG_lt hu
  have hlt':=valG_lt hu'
  have hw:=@rd_weak x _ hx hu
  have hw':=@rd_weak y _ hy hu'
  have hn:n≤4398046511104:=hn
  have hn':m≤4398046511104:=hn'
  generalize valG n g=N at *
  generalize valG m g'=M at *
  refine⟨[],stOf [(0,.rs 1 n (digU N)),(1,.rs 1 m (digU M))] [] 0 [],Wo trivial ⟨hw,hw',qQ⟩ trivial,?_⟩
  with_unfolding_all refine⟨fun h1=>⟨fun h2=>⟨[],stOf [(4,.val (goInt (-1)))] [] 0 [],Wo trivial ⟨rfl,qQ⟩ trivial,?_,rfl⟩,fun h2=>⟨[],stOf [(4,.val (goInt 1))] [] 0 [],Wo trivial ⟨rfl,qQ⟩ trivial,?_,rfl⟩⟩,
   fun h1=>⟨Nat,fun k=>k≤n∧N / B^k=M / B^k,fun k=>stOf [(0,.rs 1 n (digU N)),(1,.rs 1 m (digU M)),(5,.val (.int .i64 ((k:Int) - 1)))] [] 0 [],fun k=>k,⟨n,[],⟨Nat.le_refl _,?_⟩,Wo trivial ⟨qW,qW,?_,qQ⟩ trivial⟩,fun k hk=>?_⟩⟩
  ·have h2:n < m:=by have:=of_decide_eq_true h2;omega
   have:N < M:=lt_of_nl (by omega)
   simp [cmpN,this]
  ·have h2:¬n < m:=by have:=of_decide_eq_false h2;omega
   have h1:n≠m:=bneT h1
   have:M < N:=lt_of_nl (by omega)
   have h3:¬N < M:=by omega
   simp [cmpN,this,h3]
  ·have h1:n=m:=bneF h1
   subst h1
   rw [Nat.div_eq_of_lt hlt,Nat.div_eq_of_lt hlt']
  ·show PV.val (.int .i64 _)=PV.val (.int .i64 _)
   rw [wrap64 (by omega) (by omega)]
  ·obtain⟨hk1,hk2⟩:k≤n∧N / B^k=M / B^k:=hk
   have h1:n=m:=bneF h1
   subst h1
   cases k with
   |zero =>
    with_unfolding_all refine⟨nofun,fun _=>⟨[],stOf [(4,.val (goInt 0))] [] 0 [],Wo trivial ⟨rfl,qQ⟩ trivial,?_,rfl⟩⟩
    have:N=M:=by simpa using hk2
    simp [cmpN,this]
   |succ k =>
    have hd:=div_step N k
    have hd':=div_step M k
    rw [hk2] at hd
    have hki:(((k+1:Nat):Int) - 1)=((k:Nat):Int):=by omega
    with_unfolding_all refine⟨fun _=>⟨⟨by omega,by omega⟩,?_⟩,fun h2=>absurd (of_decide_eq_false h2) (by omega)⟩
    rw [hki]
    with_unfolding_all refine⟨⟨by omega,by omega⟩,fun h3=>⟨[],stOf [(4,.val (goInt (-1)))] [] 0 [],Wo trivial ⟨rfl,qQ⟩ trivial,?_,rfl⟩,fun h3=>⟨⟨by omega,by omega⟩,⟨by omega,by omega⟩,fun h4=>⟨[],stOf [(4,.val (goInt 1))] [] 0 [],Wo trivial ⟨rfl,qQ⟩ trivial,?_,rfl⟩,
     fun h4=>⟨k,[],⟨by omega,?_⟩,Nat.lt_succ_self k,Wo trivial ⟨qW,qW,?_,qQ⟩ trivial⟩⟩⟩
    ·have h3:((N / B^k%B:Nat):Int) < ((M / B^k%B:Nat):Int):=ltT h3
     have:N < M:=lt_of_div (k:=k) (by omega)
     simp [cmpN,this]
    ·have h4:((M / B^k%B:Nat):Int) < ((N / B^k%B:Nat):Int):=ltT h4
     have:M < N:=lt_of_div (k:=k) (by omega)
     have h5:¬N < M:=by omega
     simp [cmpN,this,h5]
    ·have h3:((M / B^k%B:Nat):Int)≤((N / B^k%B:Nat):Int):=ltF h3
     have h4:((N / B^k%B:Nat):Int)≤((M / B^k%B:Nat):Int):=ltF h4
     omega
    ·show PV.val (.int .i64 (IntKind.i64.wrap (_ - 1)))=PV.val (.int .i64 _)
     rw [wrap64 (by omega) (by omega)]
 ·cases e
end Go.Proofs
namespace Go.Num
open Go
theorem wrapN32 {n:Nat} (h:n < 2^32):IntKind.u32.wrap (n:Int)=n:=by rw [wrapU32];omega
theorem wrapN64 {n:Nat} (h:n < 2^64):IntKind.u64.wrap (n:Int)=n:=by rw [wrapU64];omega
theorem toNat_of {w n:Nat} (h:n < 2^w):(BitVec.ofInt w (n:Int)).toNat=n:=by
 rw [BitVec.ofInt_natCast,BitVec.toNat_ofNat,Nat.mod_eq_of_lt h]
theorem xor_w {a b:Nat} (ha:a < 2^32) (hb:b < 2^32):IntKind.u32.wrap ((BitVec.ofInt IntKind.u32.bits (a:Int) ^^^ BitVec.ofInt IntKind.u32.bits (b:Int)).toNat:Int)=((a ^^^ b:Nat):Int):=by
 have e:(BitVec.ofInt IntKind.u32.bits (a:Int) ^^^ BitVec.ofInt IntKind.u32.bits (b:Int)).toNat=a ^^^ b:=by
  show(BitVec.ofInt 32 (a:Int) ^^^ BitVec.ofInt 32 (b:Int)).toNat=a ^^^ b
  rw [BitVec.toNat_xor,toNat_of ha,toNat_of hb]
 rw [e,wrapN32 (Nat.xor_lt_two_pow ha hb)]
theorem and_w {a b:Nat} (ha:a < 2^32) (hb:b < 2^32):IntKind.u32.wrap ((BitVec.ofInt IntKind.u32.bits (a:Int) &&& BitVec.ofInt IntKind.u32.bits (b:Int)).toNat:Int)=((a &&& b:Nat):Int):=by
 have e:(BitVec.ofInt IntKind.u32.bits (a:Int) &&& BitVec.ofInt IntKind.u32.bits (b:Int)).toNat=a &&& b:=by
  show(BitVec.ofInt 32 (a:Int) &&& BitVec.ofInt 32 (b:Int)).toNat=a &&& b
  rw [BitVec.toNat_and,toNat_of ha,toNat_of hb]
 rw [e,wrapN32 (Nat.and_lt_two_pow _ hb)]
theorem or_w {a b:Nat} (ha:a < 2^32) (hb:b < 2^32):IntKind.u32.wrap ((BitVec.ofInt IntKind.u32.bits (a:Int) ||| BitVec.ofInt IntKind.u32.bits (b:Int)).toNat:Int)=((a ||| b:Nat):Int):=by
 have e:(BitVec.ofInt IntKind.u32.bits (a:Int) ||| BitVec.ofInt IntKind.u32.bits (b:Int)).toNat=a ||| b:=by
  show(BitVec.ofInt 32 (a:Int) ||| BitVec.ofInt 32 (b:Int)).toNat=a ||| b
  rw [BitVec.toNat_or,toNat_of ha,toNat_of hb]
 rw [e,wrapN32 (Nat.or_lt_two_pow ha hb)]
theorem not_w:(if IntKind.u32.signed=true then(-1:Int) else IntKind.u32.max)=((4294967295:Nat):Int):=by decide
theorem top_bit (b c x y:Nat):(b &&& c ||| x &&& y) / 2^31=(b / 2^31 &&& c / 2^31 ||| x / 2^31 &&& y / 2^31):=by
 rw [←Nat.shiftRight_eq_div_pow,Nat.shiftRight_or_distrib,Nat.shiftRight_and_distrib,Nat.shiftRight_and_distrib]
 simp only [Nat.shiftRight_eq_div_pow]
theorem top_xor (x y:Nat):(x ^^^ y) / 2^31=(x / 2^31 ^^^ y / 2^31):=by
 rw [←Nat.shiftRight_eq_div_pow,Nat.shiftRight_xor_distrib]
 simp only [Nat.shiftRight_eq_div_pow]
theorem top_lt {x:Nat} (h:x < 4294967296):x / 2^31=0∧x < 2147483648∨x / 2^31=1∧2147483648≤x:=by omega
theorem borrow_bit {X Y c D:Nat} (hX:X < 4294967296) (hY:Y < 4294967296) (hc:c≤1) (hD:((D:Nat):Int)=((X:Int) - Y - c)%4294967296) :
  ((4294967295 ^^^ X) &&& Y ||| (4294967295 ^^^ (X ^^^ Y)) &&& D) / 2^31=if X < Y+c then 1 else 0:=by
 have hD2:D < 4294967296:=by omega
 rw [top_bit,top_xor,top_xor,top_xor]
 have e:4294967295 / 2^31=1:=by decide
 rw [e]
 rcases top_lt hX with ⟨h1,h1'⟩|⟨h1,h1'⟩<;>rcases top_lt hY with ⟨h2,h2'⟩|⟨h2,h2'⟩<;>rcases top_lt hD2 with ⟨h3,h3'⟩|⟨h3,h3'⟩<;>rw [h1,h2,h3]<;>split<;>first|rfl|omega
end Go.Num
namespace Go.Proofs
open Go Go.Ex Go.Num
set_option maxRecDepth 100000
def c239:List PV→Option Ans
 |[.val (.int .u32 x),.val (.int .u32 y),.val (.int .u32 b)]=>some ⟨some ((0≤x∧x < 4294967296)∧(0≤y∧y < 4294967296)∧0≤b∧b≤1),.val (.tuple #[.int .u32 ((x - y - b)%4294967296),.int .u32 (if x < y+b then 1 else 0)]),[]⟩
 |_=>none
theorem ok239:funcOk {} Tryz.f239 3=true:=by kernel_rfl
theorem f239:FnOk Tryz.prog 239 c239:=by
 refine FnOk.of orders (mkE_ok (l:=[]) (own:=[]) (inl:=[]) (by simp) (by simp)) Tryz.func239 {} 3 ok239 fun args r e=>?_
 unfold c239 at e
 split at e
 ·rename_i x y b
  cases e
  refine⟨by simp,fun hm=>?_⟩
  obtain⟨hx,hy,hb⟩:=hm _ rfl
  obtain⟨X,rfl⟩:=Int.eq_ofNat_of_zero_le hx.1
  obtain⟨Y,rfl⟩:=Int.eq_ofNat_of_zero_le hy.1
  obtain⟨c,rfl⟩:=Int.eq_ofNat_of_zero_le hb.1
  with_unfolding_all refine⟨by decide,?_,rfl⟩
  obtain⟨D,hD⟩:=Int.eq_ofNat_of_zero_le (show 0≤((X:Int) - Y - c)%4294967296 by omega)
  have hd:IntKind.u32.wrap (IntKind.u32.wrap ((X:Int) - Y) - c)=(D:Int):=by rw [wrapU32,wrapU32];omega
  have hX:X < 2^32:=by omega
  have hY:Y < 2^32:=by omega
  have hD2:D < 2^32:=by omega
  have hM:4294967295 < 2^32:=by decide
  rw [hd,not_w,xor_w hM hX,xor_w hX hY,xor_w hM (Nat.xor_lt_two_pow hX hY),and_w (Nat.xor_lt_two_pow hM hX) hY,and_w (Nat.xor_lt_two_pow hM (Nat.xor_lt_two_pow hX hY)) hD2,
   or_w (Nat.and_lt_two_pow _ hY) (Nat.and_lt_two_pow _ hD2)]
  have hb:=borrow_bit (X:=X) (Y:=Y) (c:=c) (D:=D) (by omega) (by omega) (by omega) hD.symm
  have e2:(((4294967295 ^^^ X) &&& Y ||| (4294967295 ^^^ (X ^^^ Y)) &&& D:Nat):Int) / 2^min (Int.toNat 31) IntKind.u32.bits=(if (X:Int) < Y+c then 1 else 0):=by
   have e3:((((4294967295 ^^^ X) &&& Y ||| (4294967295 ^^^ (X ^^^ Y)) &&& D) / 2^31:Nat):Int)=(if (X:Int) < Y+c then 1 else 0):=by
    rw [hb]
    split<;>split<;>omega
   rw [←e3]
   rfl
  rw [e2,hD]
 ·cases e
def c252:List PV→Option Ans
 |[.val (.int .u32 x),.val (.int .u32 y),.val (.int .u32 d)]=>some ⟨some ((0≤x∧x < d)∧(0≤y∧y < 4294967296)∧d < 4294967296),.val (.tuple #[.int .u32 ((x*4294967296+y) / d),.int .u32 ((x*4294967296+y)%d)]),[]⟩
 |_=>none
theorem ok252:funcOk {} Tryz.f252 3=true:=by kernel_rfl
theorem f252:FnOk Tryz.prog 252 c252:=by
 refine FnOk.of orders (mkE_ok (l:=[]) (own:=[]) (inl:=[]) (by simp) (by simp)) Tryz.func252 {} 3 ok252 fun args r e=>?_
 unfold c252 at e
 split at e
 ·rename_i x y d
  cases e
  refine⟨by simp,fun hm=>?_⟩
  obtain⟨hx,hy,hd⟩:=hm _ rfl
  obtain⟨X,rfl⟩:=Int.eq_ofNat_of_zero_le hx.1
  obtain⟨Y,rfl⟩:=Int.eq_ofNat_of_zero_le hy.1
  obtain⟨d,rfl⟩:=Int.eq_ofNat_of_zero_le (show 0≤d by omega)
  with_unfolding_all refine⟨fun h1=>⟨fun h2=>absurd (of_decide_eq_true h2) (by omega),fun h2=>⟨by decide,?_⟩⟩,fun h1=>absurd ((bne_iff_ne.2 (show(d:Int)≠0 by omega)).symm.trans h1) nofun⟩
  ·have hz:IntKind.u64.wrap (X:Int)*2^min (Int.toNat 32) IntKind.u64.bits=((X*2^32:Nat):Int):=by
    rw [wrapN64 (by omega)]
    have e:(2:Int)^min (Int.toNat 32) IntKind.u64.bits=4294967296:=by decide
    rw [e]
    omega
   have hor:IntKind.u64.wrap ((BitVec.ofInt IntKind.u64.bits (IntKind.u64.wrap ((X*2^32:Nat):Int)) ||| BitVec.ofInt IntKind.u64.bits (IntKind.u64.wrap (Y:Int))).toNat:Int)=((X*4294967296+Y:Nat):Int):=by
    rw [wrapN64 (show X*2^32 < 2^64 by omega),wrapN64 (show Y < 2^64 by omega)]
    have:=or64 (a:=Y) (c:=X) (k:=32) (by omega) (by omega)
    have e:(BitVec.ofInt IntKind.u64.bits ((X*2^32:Nat):Int) ||| BitVec.ofInt IntKind.u64.bits (Y:Int)).toNat=Y+X*2^32:=this
    rw [e,wrapN64 (by omega)]
    omega
   rw [hz]
   with_unfolding_all refine⟨?_,?_,?_,rfl⟩
   ·rw [wrapN64 (by omega)];omega
   ·rw [wrapN64 (by omega)];omega
   ·rw [hor,wrapN64 (show d < 2^64 by omega)]
    have hd0:0 < d:=by omega
    have hq:(X*4294967296+Y) / d < 4294967296:=by
     rw [Nat.div_lt_iff_lt_mul hd0]
     have:=Nat.mul_le_mul_left 4294967296 (show X+1≤d by omega)
     omega
    have hr:(X*4294967296+Y)%d < 4294967296:=by have:=Nat.mod_lt (X*4294967296+Y) hd0;omega
    have hc:((X*4294967296+Y:Nat):Int)=(X:Int)*4294967296+Y:=by omega
    have e1:IntKind.u32.wrap (IntKind.u64.wrap (((X*4294967296+Y:Nat):Int).tdiv d))=((X:Int)*4294967296+Y) / d:=by
     rw [←Int.ofNat_tdiv,wrapN64 (by omega),wrapN32 hq,Int.natCast_ediv,hc]
    have e2:IntKind.u32.wrap (((X*4294967296+Y:Nat):Int).tmod d)=((X:Int)*4294967296+Y)%d:=by
     rw [←Int.ofNat_tmod,wrapN32 hr,Int.natCast_emod,hc]
    rw [e1,e2]
 ·cases e
end Go.Proofs
namespace Go.Num
open Go Go.Ex
theorem dig_mod (D i j:Nat):D%B^i / B^j%B=if j < i then D / B^j%B else 0:=by
 split
 ·rename_i h
  obtain⟨d,rfl⟩:∃d,i=j+1+d:=⟨i - j - 1,by omega⟩
  rw [Nat.pow_add,Nat.pow_succ,Nat.mul_assoc,Nat.mod_mul_right_div_self,Nat.mod_mul_right_mod]
 ·rename_i h
  have h1:D%B^i < B^i:=Nat.mod_lt _ (B_pos i)
  have h2:B^i≤B^j:=Nat.pow_le_pow_right (by decide) (by omega)
  rw [Nat.div_eq_of_lt (by omega),Nat.zero_mod]
theorem digU_set (D i j:Nat) {v:Int} (hv:v=((D / B^i%B:Nat):Int)):(if j=i then [PV.val (.int .u32 v)] else digU (D%B^i) j)=digU (D%B^(i+1)) j:=by
 subst hv
 split
 ·rename_i h
  subst h
  simp only [digU,dig_mod,Nat.lt_succ_self,if_true]
 ·rename_i h
  simp only [digU,dig_mod]
  rcases Nat.lt_or_ge j i with h2|h2
  ·rw [if_pos h2,if_pos (by omega)]
  ·rw [if_neg (by omega),if_neg (by omega)]
theorem mod_split (N i:Nat):N%B^(i+1)=N%B^i+B^i*(N / B^i%B):=by rw [Nat.pow_succ,Nat.mod_mul]
def bor (N M i:Nat):Nat:=if N%B^i < M%B^i then 1 else 0
theorem bor_le (N M i:Nat):bor N M i≤1:=by unfold bor;split<;>omega
theorem sub_div {N M P:Nat} (h:M≤N) (hP:0 < P):(N - M) / P+M / P+(if N%P < M%P then 1 else 0)=N / P:=by
 have h1:=Nat.div_add_mod N P
 have h2:=Nat.div_add_mod M P
 have h3:=Nat.mod_lt N hP
 have h4:=Nat.mod_lt M hP
 have h6:M / P≤N / P:=Nat.div_le_div_right h
 obtain⟨q,hq⟩:∃q,N / P=M / P+q:=⟨N / P - M / P,by omega⟩
 rw [hq,Nat.mul_add] at h1
 split
 ·rename_i h5
  have hq0:0 < q:=by
   rcases Nat.eq_zero_or_pos q with h0|h0
   ·subst h0;simp at h1;omega
   ·exact h0
  obtain⟨r,rfl⟩:∃r,q=r+1:=⟨q - 1,by omega⟩
  rw [Nat.mul_succ] at h1
  have:N - M=r*P+(P+N%P - M%P):=by rw [Nat.mul_comm r P];omega
  have h7:(N - M) / P=r:=by
   rw [this,Nat.add_comm,Nat.add_mul_div_right _ _ hP,Nat.div_eq_of_lt (by omega),Nat.zero_add]
  omega
 ·rename_i h5
  have:N - M=q*P+(N%P - M%P):=by rw [Nat.mul_comm q P];omega
  have h7:(N - M) / P=q:=by
   rw [this,Nat.add_comm,Nat.add_mul_div_right _ _ hP,Nat.div_eq_of_lt (by omega),Nat.zero_add]
  omega
theorem sub_limb {N M:Nat} (h:M≤N) (i:Nat):(((N / B^i%B:Nat):Int) - ((M / B^i%B:Nat):Int) - (bor N M i:Nat))%4294967296=(((N - M) / B^i%B:Nat):Int):=by
 have h1:=sub_div h (B_pos i)
 have hb:(if N%B^i < M%B^i then 1 else 0)=bor N M i:=rfl
 rw [hb] at h1
 generalize N / B^i=a at *
 generalize M / B^i=b at *
 generalize (N - M) / B^i=c at *
 generalize bor N M i=d at *
 rw [B_val]
 omega
theorem bor_step (N M i:Nat):(if ((N / B^i%B:Nat):Int) < ((M / B^i%B:Nat):Int)+(bor N M i:Nat) then(1:Int) else 0)=(bor N M (i+1):Nat):=by
 have hN:=Nat.mod_lt N (B_pos i)
 have hM:=Nat.mod_lt M (B_pos i)
 have key:N%B^(i+1) < M%B^(i+1)↔N / B^i%B < M / B^i%B+bor N M i:=by
  rw [mod_split,mod_split]
  generalize N / B^i%B=x
  generalize M / B^i%B=y
  unfold bor
  generalize N%B^i=a at *
  generalize M%B^i=b at *
  generalize B^i=P at *
  rcases Nat.lt_trichotomy x y with h|h|h
  ·have:=Nat.mul_le_mul_left P (show x+1≤y by omega)
   rw [Nat.mul_succ] at this
   constructor<;>intro<;>omega
  ·subst h
   split<;>omega
  ·have:=Nat.mul_le_mul_left P (show y+1≤x by omega)
   rw [Nat.mul_succ] at this
   split<;>omega
 by_cases hc:N / B^i%B < M / B^i%B+bor N M i
 ·have h1:bor N M (i+1)=1:=by rw [bor,if_pos (key.2 hc)]
  rw [h1,if_pos (by omega)]
  rfl
 ·have h1:bor N M (i+1)=0:=by rw [bor,if_neg (fun h=>hc (key.1 h))]
  rw [h1,if_neg (by omega)]
  rfl
theorem top_zero {M m i:Nat} (h:M < B^m) (hi:m≤i):M / B^i%B=0:=by
 rw [Nat.div_eq_of_lt (Nat.lt_of_lt_of_le h (Nat.pow_le_pow_right (by decide) hi)),Nat.zero_mod]
end Go.Num
namespace Go.Num
open Go Go.Ex
def car (N M i:Nat):Nat:=(N%B^i+M%B^i) / B^i
theorem car_le (N M i:Nat):car N M i≤1:=by
 have h1:=Nat.mod_lt N (B_pos i)
 have h2:=Nat.mod_lt M (B_pos i)
 unfold car
 have:(N%B^i+M%B^i) / B^i < 2:=by rw [Nat.div_lt_iff_lt_mul (B_pos i)];omega
 omega
theorem add_div' (N M:Nat) {P:Nat} (hP:0 < P):(N+M) / P=N / P+M / P+(N%P+M%P) / P:=by
 have h1:=Nat.div_add_mod N P
 have h2:=Nat.div_add_mod M P
 have:N+M=(N%P+M%P)+P*(N / P+M / P):=by rw [Nat.mul_add];omega
 rw [this,Nat.add_mul_div_left _ _ hP]
 have h3:(N%P+M%P+P*(N / P+M / P))=N+M:=this.symm
 omega
theorem add_limb (N M i:Nat):(car N M i+N / B^i%B+M / B^i%B)%B=(N+M) / B^i%B:=by
 rw [add_div' N M (B_pos i)]
 show _=(N / B^i+M / B^i+car N M i)%B
 generalize N / B^i=a
 generalize M / B^i=b
 generalize car N M i=c
 rw [B_val]
 omega
theorem car_step (N M i:Nat):(car N M i+N / B^i%B+M / B^i%B) / B=car N M (i+1):=by
 unfold car
 rw [mod_split N i,mod_split M i,Nat.pow_succ,←Nat.div_div_eq_div_mul]
 congr 1
 have:N%B^i+B^i*(N / B^i%B)+(M%B^i+B^i*(M / B^i%B))=(N%B^i+M%B^i)+B^i*(N / B^i%B+M / B^i%B):=by rw [Nat.mul_add];omega
 rw [this,Nat.add_mul_div_left _ _ (B_pos i)]
 omega
theorem digU_apd (D i:Nat) {g:Nat→List PV} {v:Int} (hv:v=((D / B^i%B:Nat):Int)) (hg:g 0=[.val (.int .u32 v)]) {j:Nat} (hj:j < i+1):digU D j=apd i (digU D) g j:=by
 unfold apd
 split
 ·rfl
 ·obtain rfl:j=i:=by omega
  rw [Nat.sub_self,hg,hv]
  rfl
theorem car_top {N M n m:Nat} (hN:N < B^n) (hM:M < B^m) (h:m≤n):car N M n=(N+M) / B^n%B:=by
 have hM':M < B^n:=Nat.lt_of_lt_of_le hM (Nat.pow_le_pow_right (by decide) h)
 have h1:=car_le N M n
 have e:(N+M) / B^n=car N M n:=by rw [add_div' N M (B_pos n),Nat.div_eq_of_lt hN,Nat.div_eq_of_lt hM',Nat.add_zero,Nat.zero_add];rfl
 rw [e,Nat.mod_eq_of_lt (by rw [B_val];omega)]
theorem add_lt {N M n m:Nat} (hN:N < B^n) (hM:M < B^m) (h:m≤n):N+M < B^(n+1):=by
 have hM':M < B^n:=Nat.lt_of_lt_of_le hM (Nat.pow_le_pow_right (by decide) h)
 rw [Nat.pow_succ]
 have:=Nat.mul_le_mul_left (B^n) (show 2≤B by decide)
 omega
end Go.Num
namespace Go.Proofs
open Go Go.Ex Go.Num
set_option maxRecDepth 100000
def c199:List PV→Option Ans
  | [x,y]=>(rdU x).bind fun r=>(rdU y).map fun q=>⟨some ((isU r.1 r.2∧tame r.1)∧(isU q.1 q.2∧tame q.1)∧valG q.1 q.2≤valG r.1 r.2),rowU (valG r.1 r.2 - valG q.1 q.2),[]⟩
  | _=>none
theorem ok199:funcOk {} Tryz.f199 2=true:=by kernel_rfl
theorem f199:FnOk Tryz.prog 199 c199:=by
  refine FnOk.ofW orders (mkE_ok (l:=[(239,c239),(146,c146)]) (own:=[]) (inl:=[]) (by simp [f239,f146]) (by simp)) Tryz.func199 { join:=fun c=>match c with | .seq (.region 7 _ _) _=>true|_=>false } 2 ok199 fun args r e=>?_
  unfold c199 at e
  split at e
  · rename_i x y
    simp only [Option.map_eq_some_iff,Option.bind_eq_some_iff] at e
    obtain⟨⟨n,g⟩,hx,⟨m,g'⟩,hy,rfl⟩:=e
    refine⟨by simp,fun hm=>?_⟩
    obtain⟨⟨hu,hn⟩,⟨hu',hn'⟩,hle⟩:=hm _ rfl
    simp only at hu hn hu' hn' hle ⊢
    have hlt:=valG_lt hu
    have hlt':=valG_lt hu'
    have hw:=@rd_weak x _ hx hu
    have hw':=@rd_weak y _ hy hu'
    have hn:n≤4398046511104:=hn
    have hn':m≤4398046511104:=hn'
    generalize valG n g=N at *
    generalize valG m g'=M at *
    refine⟨[],stOf [(0,.rs 1 n (digU N)),(1,.rs 1 m (digU M))] [] 0 [],Wo trivial ⟨hw,hw',qQ⟩ trivial,?_⟩
    with_unfolding_all refine⟨⟨by omega,by omega,by omega,by show(4:Int)*_≤_;omega⟩,Nat,fun i=>i≤n,
      fun i=>stOf [(1,.rs 1 m (digU M)),(5,.sl 0 0 0 n),(6,.val (.int .u32 (bor N M i:Nat))),(13,.rs 1 n (digU N)),(14,.val (goInt n)),(15,.val (goInt i))] [⟨139,1,0,false,false,n,digU ((N - M)%B^i)⟩] 1 [],
      fun i=>n - i,⟨0,[some 0],by omega,Wo ⟨qZ (fun i hi=>?_),qQ⟩ ⟨qW,pP,?_,qW,rfl,rfl,qQ⟩ trivial⟩,fun i hi=>?_⟩
    · show digU _ i=[PV.val (.int .u32 0)]
      simp [digU,Nat.mod_one]
    · show PV.val (.int .u32 0)=PV.val (.int .u32 ((bor N M 0:Nat):Int))
      simp [bor,Nat.mod_one]
    · replace hi:i≤n:=hi
      with_unfolding_all refine⟨fun h1=>?_,fun h1=>?_⟩
      · replace h1:i < n:=by have:=ltT h1;omega
        with_unfolding_all refine⟨⟨by omega,by omega⟩,Unit,fun _=>True,fun _=>stOf [(1,.rs 1 m (digU M)),(5,.sl 0 0 0 n),(6,.val (.int .u32 (bor N M i:Nat))),(7,.val (goInt i)),(8,.val (.int .u32 ((N / B^i%B:Nat):Int))),(9,.val (.int .u32 ((M / B^i%B:Nat):Int))),(13,.rs 1 n (digU N)),(14,.val (goInt n)),(15,.val (goInt i))] [⟨139,1,0,false,false,n,digU ((N - M)%B^i)⟩] 1 [],
          ⟨fun h2=>⟨⟨by omega,?_⟩,(),[some 0],trivial,Wo ⟨qZ (fun j hj=>rfl),qQ⟩ ⟨qW,pP,rfl,rfl,rfl,rfl,qW,rfl,rfl,qQ⟩ trivial⟩,
           fun h2=>⟨(),[some 0],trivial,Wo ⟨qZ (fun j hj=>rfl),qQ⟩ ⟨qW,pP,rfl,rfl,rfl,?_,qW,rfl,rfl,qQ⟩ trivial⟩⟩,fun _ _=>?_⟩
        · exact ltT h2
        · have h2:=ltF h2
          show PV.val (.int .u32 0)=PV.val (.int .u32 ((M / B^i%B:Nat):Int))
          rw [top_zero hlt' (by omega)]
          rfl
        · have hbl:=bor_le N M i
          have hx1:=Nat.mod_lt (N / B^i) (show 0 < B by decide)
          have hy1:=Nat.mod_lt (M / B^i) (show 0 < B by decide)
          have hB:B=4294967296:=rfl
          with_unfolding_all refine⟨⟨⟨by omega,by omega⟩,⟨by omega,by omega⟩,by omega,by omega⟩,⟨by omega,by omega⟩,i+1,[some 0],?_,?_,Wo ⟨qZ (fun j hj=>?_),qQ⟩ ⟨qW,pP,?_,qW,rfl,?_,qQ⟩ trivial⟩
          · exact h1
          · show n - (i+1) < n - i
            omega
          · show digU ((N - M)%B^(i+1)) j=if j=0+i then [PV.val (.int .u32 ((((N / B^i%B:Nat):Int) - ((M / B^i%B:Nat):Int) - (bor N M i:Nat))%4294967296))] else digU ((N - M)%B^i) j
            rw [Nat.zero_add,digU_set (N - M) i j (sub_limb hle i)]
          · show PV.val (.int .u32 (if ((N / B^i%B:Nat):Int) < ((M / B^i%B:Nat):Int)+(bor N M i:Nat) then(1:Int) else 0))=PV.val (.int .u32 ((bor N M (i+1):Nat):Int))
            rw [bor_step]
          · show PV.val (.int .i64 (IntKind.i64.wrap ((i:Int)+1)))=PV.val (.int .i64 ((i+1:Nat):Int))
            rw [wrap64 (by omega) (by omega)]
            rfl
      · have h1:=ltF h1
        have hi2:i=n:=by omega
        subst hi2
        have hD:(N - M)%B^i=N - M:=Nat.mod_eq_of_lt (by omega)
        have hv:valG i (fun k=>digU ((N - M)%B^i) (0+k))=N - M:=by
          have e:(fun k=>digU ((N - M)%B^i) (0+k))=digU (N - M):=by funext k;rw [Nat.zero_add,hD]
          rw [e,valG_digU,hD]
        with_unfolding_all refine⟨⟨?_,by show i≤_;omega⟩,[],stOf [(4,rowU (N - M))] [] 0 [],Wo trivial ⟨⟨rfl,?_,?_⟩,qQ⟩ trivial,rfl,rfl⟩
        · exact fun j _=>⟨_,Nat.mod_lt _ (by decide),rfl⟩
        · exact congrArg nl hv
        · intro j _
          show digU (N - M) j=digU (valG i fun k=>digU ((N - M)%B^i) (0+k)) j
          rw [hv]
  · cases e
end Go.Proofs
namespace Go.Proofs
open Go Go.Ex Go.Num
set_option maxRecDepth 100000
def c198:List PV→Option Ans
  | [x,y]=>(rdU x).bind fun r=>(rdU y).map fun q=>⟨some ((isU r.1 r.2∧tame (r.1+1))∧(isU q.1 q.2∧tame (q.1+1))),rowU (valG r.1 r.2+valG q.1 q.2),[]⟩
  | _=>none
theorem ok198:funcOk {} Tryz.f198 2=true:=by kernel_rfl
theorem f198:FnOk Tryz.prog 198 c198:=by
  refine FnOk.ofW orders (mkE_ok (l:=[(146,c146)]) (own:=[]) (inl:=[]) (by simp [f146]) (by simp)) Tryz.func198 { join:=fun c=>match c with | .seq (.region 1 _ _) _=>true | .seq (.region 9 _ _) _=>true|_=>false } 2 ok198 fun args r e=>?_
  unfold c198 at e
  split at e
  · rename_i x y
    simp only [Option.map_eq_some_iff,Option.bind_eq_some_iff] at e
    obtain⟨⟨n,g⟩,hx,⟨m,g'⟩,hy,rfl⟩:=e
    refine⟨by simp,fun hm=>?_⟩
    obtain⟨⟨hu,hn⟩,hu',hn'⟩:=hm _ rfl
    simp only at hu hn hu' hn' ⊢
    have hlt:=valG_lt hu
    have hlt':=valG_lt hu'
    have hw:=@rd_weak x _ hx hu
    have hw':=@rd_weak y _ hy hu'
    have hn:n+1≤4398046511104:=hn
    have hn':m+1≤4398046511104:=hn'
    generalize valG n g=N at *
    generalize valG m g'=M at *
    refine⟨[],stOf [(0,.rs 1 n (digU N)),(1,.rs 1 m (digU M))] [] 0 [],Wo trivial ⟨hw,hw',qQ⟩ trivial,?_⟩
    generalize hT:N+M=T
    with_unfolding_all refine⟨(Nat×Nat)×Nat×Nat,fun a=>(a.1.2 < B^a.1.1∧a.1.1+1≤4398046511104)∧a.2.2 < B^a.2.1∧a.2.1≤a.1.1∧a.1.2+a.2.2=T,
      fun a=>stOf [(0,.rs 1 a.1.1 (digU a.1.2)),(1,.rs 1 a.2.1 (digU a.2.2))] [] 0 [],
      ⟨fun h1=>⟨((m,M),n,N),[],⟨⟨hlt',hn'⟩,hlt,?_,?_⟩,Wo trivial ⟨qW,qW,qQ⟩ trivial⟩,
       fun h1=>⟨((n,N),m,M),[],⟨⟨hlt,hn⟩,hlt',?_,hT⟩,Wo trivial ⟨qW,qW,qQ⟩ trivial⟩⟩,fun a ha=>?_⟩
    · have:=ltT h1;show n≤m;omega
    · show M+N=T;omega
    · have:=ltF h1;show m≤n;omega
    · clear hx hy hu hu' hlt hlt' hw hw' hn hn' hm hT
      obtain⟨⟨n,N⟩,m,M⟩:=a
      obtain⟨⟨hN,hn⟩,hM,hmn,hT⟩:(N < B^n∧n+1≤4398046511104)∧M < B^m∧m≤n∧N+M=T:=ha
      have hn1:IntKind.i64.wrap ((n:Int)+1)=((n+1:Nat):Int):=by rw [wrap64 (by omega) (by omega)];rfl
      with_unfolding_all refine⟨⟨by omega,by rw [hn1];omega,by rw [hn1];omega,by rw [hn1];show(4:Int)*_≤_;omega⟩,Nat,fun i=>i≤n,
        fun i=>stOf [(1,.rs 1 m (digU M)),(5,.sl 0 0 0 i),(6,.val (.int .u64 (car N M i:Nat))),(20,.rs 1 n (digU N)),(21,.val (goInt n)),(22,.val (goInt i))] [⟨139,1,0,false,false,i,digU T⟩] 1 [],
        fun i=>n - i,⟨0,[some 0],by omega,Wo ⟨qZ (fun i hi=>absurd (show i < 0 from hi) (by omega)),qQ⟩ ⟨qW,pP,?_,qW,rfl,rfl,qQ⟩ trivial⟩,fun i hi=>?_⟩
      · show PV.val (.int .u64 0)=PV.val (.int .u64 ((car N M 0:Nat):Int))
        simp [car,Nat.mod_one]
      · replace hi:i≤n:=hi
        have hcl:=car_le N M i
        have hx1:=Nat.mod_lt (N / B^i) (show 0 < B by decide)
        have hy1:=Nat.mod_lt (M / B^i) (show 0 < B by decide)
        have hB:B=4294967296:=rfl
        with_unfolding_all refine⟨fun h1=>?_,fun h1=>?_⟩
        · replace h1:i < n:=by have:=ltT h1;omega
          with_unfolding_all refine⟨⟨by omega,by omega⟩,Unit,fun _=>True,fun _=>stOf [(1,.rs 1 m (digU M)),(5,.sl 0 0 0 i),(6,.val (.int .u64 ((car N M i+N / B^i%B+M / B^i%B:Nat):Int))),(20,.rs 1 n (digU N)),(21,.val (goInt n)),(22,.val (goInt i))] [⟨139,1,0,false,false,i,digU T⟩] 1 [],
            ⟨fun h2=>⟨⟨by omega,?_⟩,(),[some 0],trivial,Wo ⟨qZ (fun j hj=>rfl),qQ⟩ ⟨qW,pP,?_,qW,rfl,rfl,qQ⟩ trivial⟩,
             fun h2=>⟨(),[some 0],trivial,Wo ⟨qZ (fun j hj=>rfl),qQ⟩ ⟨qW,pP,?_,qW,rfl,rfl,qQ⟩ trivial⟩⟩,fun _ _=>?_⟩
          · exact ltT h2
          · show PV.val (.int .u64 (IntKind.u64.wrap (IntKind.u64.wrap ((car N M i:Nat)+IntKind.u64.wrap ((N / B^i%B:Nat):Int))+IntKind.u64.wrap ((M / B^i%B:Nat):Int))))=PV.val (.int .u64 _)
            rw [wrapU64,wrapU64,wrapU64,wrapU64]
            congr 2
            omega
          · have h2:=ltF h2
            have hz:=top_zero hM (show m≤i by omega)
            show PV.val (.int .u64 (IntKind.u64.wrap ((car N M i:Nat)+IntKind.u64.wrap ((N / B^i%B:Nat):Int))))=PV.val (.int .u64 _)
            rw [wrapU64,wrapU64,hz]
            congr 2
            omega
          · have hal:=add_limb N M i
            have hcs:=car_step N M i
            generalize hc:car N M i+N / B^i%B+M / B^i%B=c at hal hcs ⊢
            have hv:IntKind.u32.wrap (c:Int)=((T / B^i%B:Nat):Int):=by rw [wrapU32,←hT,←hal,hB];omega
            with_unfolding_all refine⟨⟨rfl,?_,?_⟩,by decide,i+1,[some 0],?_,?_,Wo ⟨qZ (fun j hj=>?_),qQ⟩ ⟨qW,pP,?_,qW,rfl,?_,qQ⟩ trivial⟩
            · show(i+1)*4≤140737488355328
              omega
            · show i+1≤9223372036854775807
              omega
            · exact h1
            · show n - (i+1) < n - i
              omega
            · exact digU_apd T i hv rfl hj
            · show PV.val (.int .u64 ((c:Int) / 2^min (Int.toNat 32) IntKind.u64.bits))=PV.val (.int .u64 _)
              have e:(2:Int)^min (Int.toNat 32) IntKind.u64.bits=4294967296:=by decide
              rw [e,←hcs,hB]
              congr 2
            · show PV.val (.int .i64 (IntKind.i64.wrap ((i:Int)+1)))=PV.val (.int .i64 ((i+1:Nat):Int))
              rw [wrap64 (by omega) (by omega)]
              rfl
        · have h1:=ltF h1
          have hi2:i=n:=by omega
          subst hi2
          have htop:=car_top hN hM hmn
          have hlt:=add_lt hN hM hmn
          rw [hT] at htop hlt
          have hv:IntKind.u32.wrap ((car N M i:Nat):Int)=((T / B^i%B:Nat):Int):=by rw [wrapU32,htop,hB];omega
          have hat:∀g:Nat→List PV,g 0=[.val (.int .u32 (IntKind.u32.wrap ((car N M i:Nat):Int)))]→∀j,j < i+1→apd i (digU T) g (0+j)=digU T j:=by
            intro g hg j hj
            rw [Nat.zero_add,←digU_apd T i hv hg hj]
          have hval:∀g:Nat→List PV,g 0=[.val (.int .u32 (IntKind.u32.wrap ((car N M i:Nat):Int)))]→valG (i+1) (fun k=>apd i (digU T) g (0+k))=T:=by
            intro g hg
            have:∀k,k≤i+1→valG k (fun k=>apd i (digU T) g (0+k))=T%B^k:=by
              intro k
              induction k with
              | zero=>intro _;simp [valG,Nat.mod_one]
              | succ k ih =>
                intro hk
                rw [valG,ih (by omega),Nat.zero_add,←digU_apd T i hv hg (show k < i+1 by omega)]
                have:=valG_digU T (k+1)
                rw [valG,valG_digU] at this
                exact this
            rw [this (i+1) (Nat.le_refl _),Nat.mod_eq_of_lt hlt]
          with_unfolding_all refine⟨⟨rfl,?_,?_⟩,⟨?_,?_⟩,[],stOf [(4,rowU T)] [] 0 [],Wo trivial ⟨⟨rfl,?_,?_⟩,qQ⟩ trivial,rfl,rfl⟩
          · show(i+1)*4≤140737488355328
            omega
          · show i+1≤9223372036854775807
            omega
          · intro j hj
            exact⟨_,Nat.mod_lt (T / B^j) (by decide),hat _ rfl j hj⟩
          · show i+1≤_
            exact hn
          · exact congrArg nl (hval _ rfl)
          · intro j _
            exact congrArg (digU · j) (hval _ rfl).symm
  · cases e
end Go.Proofs
namespace Go.Num
open Go Go.Ex
def tV (A x M i k:Nat):Nat:=A+x*(M%B^k)*B^i
def tW (A x M i k:Nat):Nat:=tV A x M i k%B^(i+k)+A / B^(i+k)*B^(i+k)
def tC (A x M i k:Nat):Nat:=tV A x M i k / B^(i+k) - A / B^(i+k)
theorem tV_zero (A x M i:Nat):tV A x M i 0=A:=by simp [tV,Nat.mod_one]
theorem tV_step (A x M i k:Nat):tV A x M i (k+1)=tV A x M i k+x*(M / B^k%B)*B^(i+k):=by
 unfold tV
 rw [mod_split,Nat.mul_add,Nat.add_mul,Nat.pow_add,←Nat.add_assoc]
 congr 1
 rw [Nat.mul_comm (B^k) (M / B^k%B),←Nat.mul_assoc,Nat.mul_assoc (x*(M / B^k%B)),Nat.mul_comm (B^k)]
theorem tV_ge (A x M i k:Nat):A≤tV A x M i k:=Nat.le_add_right _ _
theorem tV_div (A x M i k:Nat):tV A x M i k / B^(i+k)=tC A x M i k+A / B^(i+k):=by
 unfold tC
 have:=Nat.div_le_div_right (c:=B^(i+k)) (tV_ge A x M i k)
 omega
theorem tC_lt {A x M i k:Nat} (hx:x < B):tC A x M i k < B:=by
 have h1:x*(M%B^k)*B^i < (B - 1)*B^(i+k)+1:=by
  have h2:M%B^k≤B^k:=Nat.le_of_lt (Nat.mod_lt _ (B_pos k))
  have h3:x*(M%B^k)≤(B - 1)*B^k:=Nat.mul_le_mul (by omega) h2
  have h4:=Nat.mul_le_mul_right (B^i) h3
  rw [Nat.mul_assoc (B - 1),←Nat.pow_add,Nat.add_comm k i] at h4
  omega
 have h5:tV A x M i k / B^(i+k)≤A / B^(i+k)+(B - 1):=by
  have:tV A x M i k≤A+B^(i+k)*(B - 1):=by unfold tV;rw [Nat.mul_comm (B^(i+k))];omega
  have:=Nat.div_le_div_right (c:=B^(i+k)) this
  rwa [Nat.add_mul_div_left _ _ (B_pos _)] at this
 unfold tC
 have:0 < B:=by decide
 omega
theorem tC_zero (A x M i:Nat):tC A x M i 0=0:=by simp [tC,tV_zero]
theorem tW_zero (A x M i:Nat):tW A x M i 0=A:=by rw [tW,tV_zero,Nat.mul_comm];exact Nat.mod_add_div A _
theorem tW_dig (A x M i k j:Nat):tW A x M i k / B^j%B=if j < i+k then tV A x M i k / B^j%B else A / B^j%B:=by
 have hmod:tW A x M i k%B^(i+k)=tV A x M i k%B^(i+k):=by
  unfold tW
  rw [Nat.add_mul_mod_self_right,Nat.mod_mod]
 have hdiv:tW A x M i k / B^(i+k)=A / B^(i+k):=by
  unfold tW
  rw [Nat.add_mul_div_right _ _ (B_pos _),Nat.div_eq_of_lt (Nat.mod_lt _ (B_pos _)),Nat.zero_add]
 split
 ·rename_i h
  have h1:=dig_mod (tW A x M i k) (i+k) j
  have h2:=dig_mod (tV A x M i k) (i+k) j
  rw [if_pos h] at h1 h2
  rw [←h1,hmod,h2]
 ·rename_i h
  obtain⟨d,rfl⟩:∃d,j=i+k+d:=⟨j - (i+k),by omega⟩
  rw [Nat.pow_add,←Nat.div_div_eq_div_mul,hdiv,←Nat.div_div_eq_div_mul]
theorem t_limb (A x M i k:Nat):(tC A x M i k+x*(M / B^k%B)+A / B^(i+k)%B)%B=tV A x M i (k+1) / B^(i+k)%B:=by
 rw [tV_step,Nat.add_mul_div_right _ _ (B_pos _),tV_div]
 generalize x*(M / B^k%B)=p
 generalize tC A x M i k=c
 generalize A / B^(i+k)=q
 rw [B_val]
 omega
theorem t_carry (A x M i k:Nat):(tC A x M i k+x*(M / B^k%B)+A / B^(i+k)%B) / B=tC A x M i (k+1):=by
 have h1:tV A x M i (k+1) / B^(i+k)=tC A x M i k+A / B^(i+k)+x*(M / B^k%B):=by rw [tV_step,Nat.add_mul_div_right _ _ (B_pos _),tV_div]
 have h2:=tV_div A x M i (k+1)
 rw [←Nat.add_assoc,Nat.pow_succ,←Nat.div_div_eq_div_mul,←Nat.div_div_eq_div_mul,h1] at h2
 generalize x*(M / B^k%B)=p at *
 generalize tC A x M i k=c at *
 generalize A / B^(i+k)=q at *
 generalize tC A x M i (k+1)=r at *
 rw [B_val] at *
 omega
theorem t_set (A x M i k j:Nat) {v:Int} (hv:v=(((tC A x M i k+x*(M / B^k%B)+A / B^(i+k)%B)%B:Nat):Int)) :
  (if j=i+k then [PV.val (.int .u32 v)] else digU (tW A x M i k) j)=digU (tW A x M i (k+1)) j:=by
 subst hv
 rw [t_limb]
 simp only [digU,tW_dig]
 split
 ·rename_i h
  subst h
  rw [if_pos (by omega)]
 ·rename_i h
  rcases Nat.lt_or_ge j (i+k) with h2|h2
  ·rw [if_pos h2,if_pos (by omega),tV_step]
   obtain⟨d,hd⟩:∃d,i+k=j+1+d:=⟨i+k - j - 1,by omega⟩
   rw [hd,Nat.pow_add,Nat.pow_succ]
   have:x*(M / B^k%B)*(B^j*B*B^d)=B^j*(B*(x*(M / B^k%B)*B^d)):=by
    generalize x*(M / B^k%B)=p
    rw [←Nat.mul_assoc,Nat.mul_comm p,Nat.mul_assoc (B^j*B),Nat.mul_assoc]
   rw [this,Nat.add_mul_div_left _ _ (B_pos j),Nat.add_mul_mod_self_left]
  ·rw [if_neg (by omega),if_neg (by omega)]
theorem t_end (N M i m:Nat) (hM:M < B^m):tV (N%B^i*M) (N / B^i%B) M i m=N%B^(i+1)*M:=by
 unfold tV
 rw [Nat.mod_eq_of_lt hM,mod_split,Nat.add_mul]
 congr 1
 rw [Nat.mul_comm (B^i),Nat.mul_assoc,Nat.mul_assoc,Nat.mul_comm M]
theorem t_last (A x M i m j:Nat) (hA:A < B^(i+m)) (hV:tV A x M i m < B^(i+m+1)) {v:Int} (hv:v=((tC A x M i m:Nat):Int)) :
  (if j=i+m then [PV.val (.int .u32 v)] else digU (tW A x M i m) j)=digU (tV A x M i m) j:=by
 subst hv
 have h0:A / B^(i+m)=0:=Nat.div_eq_of_lt hA
 have h1:=tV_div A x M i m
 rw [h0,Nat.add_zero] at h1
 have h2:tC A x M i m < B:=by
  rw [←h1,Nat.div_lt_iff_lt_mul (B_pos _),Nat.mul_comm,←Nat.pow_succ]
  exact hV
 simp only [digU,tW_dig]
 split
 ·rename_i h
  subst h
  rw [h1,Nat.mod_eq_of_lt h2]
 ·rename_i h
  split
  ·rfl
  ·rename_i h3
   have e1:A / B^j%B=0:=top_zero hA (by omega)
   have e2:tV A x M i m / B^j%B=0:=top_zero hV (by omega)
   rw [e1,e2]
end Go.Num
namespace Go.Num
open Go
theorem wrapMod (t:Nat):IntKind.u32.wrap (t:Int)=((t%B:Nat):Int):=by
 rw [wrapU32,B_val]
 omega
theorem shr32 (t:Nat):(t:Int) / 2^min (Int.toNat 32) IntKind.u64.bits=((t / B:Nat):Int):=by
 have e:(2:Int)^min (Int.toNat 32) IntKind.u64.bits=4294967296:=by decide
 rw [e,B_val]
 omega
end Go.Num
namespace Go.Proofs
open Go Go.Ex Go.Num
set_option maxRecDepth 100000
def c156:List PV→Option Ans
 |[x,y]=>(rdU x).bind fun r=>(rdU y).map fun q=>⟨some ((isU r.1 r.2∧isU q.1 q.2)∧tame (r.1+q.1)),rowU (valG r.1 r.2*valG q.1 q.2),[]⟩
 |_=>none
theorem ok156:funcOk {} Tryz.f156 2=true:=by kernel_rfl
theorem f156:FnOk Tryz.prog 156 c156:=by
 refine FnOk.ofW orders (mkE_ok (l:=[(146,c146)]) (own:=[]) (inl:=[]) (by simp [f146]) (by simp)) Tryz.func156 {} 2 ok156 fun args r e=>?_
 unfold c156 at e
 split at e
 ·rename_i x y
  simp only [Option.map_eq_some_iff,Option.bind_eq_some_iff] at e
  obtain⟨⟨n,g⟩,hx,⟨m,g'⟩,hy,rfl⟩:=e
  refine⟨by simp,fun hm=>?_⟩
  obtain⟨⟨hu,hu'⟩,hn⟩:=hm _ rfl
  simp only at hu hn hu' ⊢
  have hN:=valG_lt hu
  have hM:=valG_lt hu'
  have hw:=@rd_weak x _ hx hu
  have hw':=@rd_weak y _ hy hu'
  have hn:n+m≤4398046511104:=hn
  generalize valG n g=N at *
  generalize valG m g'=M at *
  clear hx hy hu hu' hm
  refine⟨[],stOf [(0,.rs 1 n (digU N)),(1,.rs 1 m (digU M))] [] 0 [],Wo trivial ⟨hw,hw',qQ⟩ trivial,?_⟩
  clear hw hw'
  have hnm:IntKind.i64.wrap ((n:Int)+m)=((n+m:Nat):Int):=by rw [wrap64 (by omega) (by omega)];rfl
  with_unfolding_all refine⟨⟨by rw [hnm];omega,by omega,by rw [hnm];omega,by rw [hnm];show(4:Int)*_≤_;omega⟩,?_⟩
  rw [hnm]
  with_unfolding_all refine⟨Nat,fun i=>i≤n,fun i=>stOf [(1,.rs 1 m (digU M)),(5,.sl 0 0 0 (n+m)),(17,.rs 1 n (digU N)),(18,.val (goInt n)),(19,.val (goInt i))] [⟨139,1,0,false,false,n+m,digU (N%B^i*M)⟩] 1 [],
   fun i=>n - i,⟨0,[some 0],by omega,Wo ⟨qZ (fun i hi=>?_),qQ⟩ ⟨qW,pP,qW,rfl,rfl,qQ⟩ trivial⟩,fun i hi=>?_⟩
  ·show digU _ i=[PV.val (.int .u32 0)]
   simp [digU,Nat.mod_one]
  ·replace hi:i≤n:=hi
   have hB:B=4294967296:=rfl
   with_unfolding_all refine⟨fun h1=>?_,fun h1=>?_⟩
   ·replace h1:i < n:=by have:=ltT h1;omega
    have hx:=Nat.mod_lt (N / B^i) (show 0 < B by decide)
    have hA:N%B^i*M < B^(i+m):=by
     rw [Nat.pow_add]
     exact Nat.mul_lt_mul'' (Nat.mod_lt _ (B_pos i)) hM
    have hend:=t_end N M i m hM
    have hV:N%B^(i+1)*M < B^(i+m+1):=by
     rw [show i+m+1=(i+1)+m by omega,Nat.pow_add _ (i+1) m]
     exact Nat.mul_lt_mul'' (Nat.mod_lt _ (B_pos _)) hM
    generalize hAe:N%B^i*M=A at *
    with_unfolding_all refine⟨⟨by omega,by omega⟩,Nat,fun k=>k≤m,fun k=>stOf [(1,.rs 1 m (digU M)),(5,.sl 0 0 0 (n+m)),(6,.val (goInt i)),(7,.val (.int .u32 ((N / B^i%B:Nat):Int))),(8,.val (.int .u64 (tC A (N / B^i%B) M i k:Nat))),(17,.rs 1 n (digU N)),(18,.val (goInt n)),(19,.val (goInt i)),(24,.rs 1 m (digU M)),(25,.val (goInt m)),(26,.val (goInt k))]
      [⟨139,1,0,false,false,n+m,digU (tW A (N / B^i%B) M i k)⟩] 1 [],fun k=>m - k,⟨0,[some 0],by omega,Wo ⟨qZ (fun j hj=>?_),qQ⟩ ⟨qW,pP,rfl,rfl,?_,qW,rfl,rfl,qW,rfl,rfl,qQ⟩ trivial⟩,fun k hk=>?_⟩
    ·rw [tW_zero]
    ·rw [tC_zero]
     rfl
    ·replace hk:k≤m:=hk
     have hc:=tC_lt (A:=A) (M:=M) (i:=i) (k:=k) hx
     have hy:=Nat.mod_lt (M / B^k) (show 0 < B by decide)
     have ha:=Nat.mod_lt (A / B^(i+k)) (show 0 < B by decide)
     with_unfolding_all refine⟨fun h2=>?_,fun h2=>?_⟩
     ·replace h2:k < m:=by have:=ltT h2;omega
      have hik:IntKind.i64.wrap ((i:Int)+k)=((i+k:Nat):Int):=by rw [wrap64 (by omega) (by omega)];rfl
      have hlimb:tW A (N / B^i%B) M i k / B^(i+k)%B=A / B^(i+k)%B:=by rw [tW_dig,if_neg (by omega)]
      with_unfolding_all refine⟨⟨by omega,by omega⟩,⟨by rw [hik];omega,by rw [hik];omega⟩,?_⟩
      rw [hik]
      have hxy:N / B^i%B*(M / B^k%B)≤(B - 1)*(B - 1):=Nat.mul_le_mul (by omega) (by omega)
      have hset:=fun j=>t_set A (N / B^i%B) M i k j (v:=IntKind.u32.wrap ((tC A (N / B^i%B) M i k+N / B^i%B*(M / B^k%B)+A / B^(i+k)%B:Nat):Int)) (wrapMod _)
      have hcar:=t_carry A (N / B^i%B) M i k
      have hword:IntKind.u64.wrap ((tC A (N / B^i%B) M i k:Nat)+IntKind.u64.wrap (IntKind.u64.wrap (IntKind.u64.wrap ((N / B^i%B:Nat):Int)*IntKind.u64.wrap ((M / B^(k:Int).toNat%B:Nat):Int))+IntKind.u64.wrap ((tW A (N / B^i%B) M i k / B^(0+((i+k:Nat):Int).toNat)%B:Nat):Int)))
        = ((tC A (N / B^i%B) M i k+N / B^i%B*(M / B^k%B)+A / B^(i+k)%B:Nat):Int):=by
       rw [Nat.zero_add,Int.toNat_natCast,Int.toNat_natCast,hlimb,wrapN64 (show N / B^i%B < 2^64 by omega),wrapN64 (show M / B^k%B < 2^64 by omega),wrapN64 (show A / B^(i+k)%B < 2^64 by omega),←Int.natCast_mul]
       generalize N / B^i%B*(M / B^k%B)=p at *
       rw [hB] at hxy
       simp only [wrapU64]
       omega
      with_unfolding_all refine⟨⟨by omega,by omega⟩,?_⟩
      rw [hik,hword]
      generalize tC A (N / B^i%B) M i k+N / B^i%B*(M / B^k%B)+A / B^(i+k)%B=t at *
      with_unfolding_all refine⟨by decide,k+1,[some 0],?_,?_,Wo ⟨qZ (fun j hj=>?_),qQ⟩ ⟨qW,pP,rfl,rfl,?_,qW,rfl,rfl,qW,rfl,?_,qQ⟩ trivial⟩
      ·exact h2
      ·show m - (k+1) < m - k
       omega
      ·show digU (tW A (N / B^i%B) M i (k+1)) j=if j=0+(i+k) then [PV.val (.int .u32 (IntKind.u32.wrap (t:Int)))] else digU (tW A (N / B^i%B) M i k) j
       rw [Nat.zero_add,hset]
      ·show PV.val (.int .u64 ((t:Int) / 2^min (Int.toNat 32) IntKind.u64.bits))=PV.val (.int .u64 ((tC A (N / B^i%B) M i (k+1):Nat):Int))
       rw [shr32,hcar]
      ·show PV.val (.int .i64 (IntKind.i64.wrap ((k:Int)+1)))=PV.val (.int .i64 ((k+1:Nat):Int))
       rw [wrap64 (by omega) (by omega)]
       rfl
     ·have h2:=ltF h2
      have hkm:k=m:=by omega
      subst hkm
      have hik:IntKind.i64.wrap ((i:Int)+k)=((i+k:Nat):Int):=by rw [wrap64 (by omega) (by omega)];rfl
      have hlast:=fun j=>t_last A (N / B^i%B) M i k j hA (by rw [hend];exact hV) (v:=IntKind.u32.wrap ((tC A (N / B^i%B) M i k:Nat):Int)) (by rw [wrapMod,Nat.mod_eq_of_lt hc])
      with_unfolding_all refine⟨⟨by rw [hik];omega,by rw [hik];omega⟩,i+1,[some 0],?_,?_,Wo ⟨qZ (fun j hj=>?_),qQ⟩ ⟨qW,pP,qW,rfl,?_,qQ⟩ trivial⟩
      ·exact h1
      ·show n - (i+1) < n - i
       omega
      ·show digU (N%B^(i+1)*M) j=if j=0+(IntKind.i64.wrap ((i:Int)+k)).toNat then [PV.val (.int .u32 (IntKind.u32.wrap ((tC A (N / B^i%B) M i k:Nat):Int)))] else digU (tW A (N / B^i%B) M i k) j
       rw [hik,Nat.zero_add,←hend]
       exact(hlast j).symm
      ·show PV.val (.int .i64 (IntKind.i64.wrap ((i:Int)+1)))=PV.val (.int .i64 ((i+1:Nat):Int))
       rw [wrap64 (by omega) (by omega)]
       rfl
   ·have h1:=ltF h1
    have hi2:i=n:=by omega
    subst hi2
    have hD:N%B^i*M=N*M:=by rw [Nat.mod_eq_of_lt hN]
    have hlt:N*M < B^(i+m):=by rw [Nat.pow_add];exact Nat.mul_lt_mul'' hN hM
    have hv:valG (i+m) (fun k=>digU (N%B^i*M) (0+k))=N*M:=by
     have e:(fun k=>digU (N%B^i*M) (0+k))=digU (N*M):=by funext k;rw [Nat.zero_add,hD]
     rw [e,valG_digU,Nat.mod_eq_of_lt hlt]
    with_unfolding_all refine⟨⟨fun j _=>⟨_,Nat.mod_lt _ (by decide),rfl⟩,hn⟩,[],stOf [(4,rowU (N*M))] [] 0 [],Wo trivial ⟨⟨rfl,?_,?_⟩,qQ⟩ trivial,rfl,rfl⟩
    ·exact congrArg nl hv
    ·intro j _
     exact congrArg (digU · j) hv.symm
 ·cases e
end Go.Proofs
namespace Go.Num
open Go Go.Ex
theorem dig_hi (Q k j:Nat):Q / B^k*B^k / B^j%B=if j < k then 0 else Q / B^j%B:=by
 split
 ·rename_i h
  obtain⟨d,rfl⟩:∃d,k=j+1+d:=⟨k - j - 1,by omega⟩
  have:Q / B^(j+1+d)*B^(j+1+d)=Q / B^(j+1+d)*B^d*B*B^j:=by
   rw [Nat.mul_assoc,Nat.mul_assoc,show B^d*(B*B^j)=B^(j+1+d) by rw [Nat.add_comm (j+1),Nat.pow_add,Nat.pow_succ,Nat.mul_comm (B^j)]]
  rw [this,Nat.mul_div_cancel _ (B_pos j),Nat.mul_mod_left]
 ·rename_i h
  obtain⟨d,rfl⟩:∃d,j=k+d:=⟨j - k,by omega⟩
  rw [Nat.pow_add,←Nat.div_div_eq_div_mul,Nat.mul_div_cancel _ (B_pos k),←Nat.div_div_eq_div_mul]
theorem digU_hi (Q k j:Nat) {v:Int} (hv:v=((Q / B^k%B:Nat):Int)):(if j=k then [PV.val (.int .u32 v)] else digU (Q / B^(k+1)*B^(k+1)) j)=digU (Q / B^k*B^k) j:=by
 subst hv
 simp only [digU,dig_hi]
 split
 ·rename_i h
  subst h
  rw [if_neg (by omega)]
 ·rename_i h
  rcases Nat.lt_or_ge j k with h2|h2
  ·rw [if_pos (by omega),if_pos h2]
  ·rw [if_neg (by omega),if_neg (by omega)]
theorem short_step (N d k:Nat) (hd:0 < d) (hdB:d < B):(N / B^(k+1)%d*B+N / B^k%B) / d=N / d / B^k%B∧(N / B^(k+1)%d*B+N / B^k%B)%d=N / B^k%d∧N / B^(k+1)%d < d:=by
 have h1:=div_step N k
 have h2:=Nat.div_add_mod (N / B^(k+1)) d
 have hr:=Nat.mod_lt (N / B^(k+1)) hd
 have hx:=Nat.mod_lt (N / B^k) (show 0 < B by decide)
 have e:N / d / B^k=N / B^k / d:=by rw [Nat.div_div_eq_div_mul,Nat.div_div_eq_div_mul,Nat.mul_comm]
 rw [e]
 generalize N / B^(k+1)=q at *
 generalize N / B^k=p at *
 generalize p%B=x at *
 generalize q%d=r at *
 generalize q / d=s at *
 have h3:p=(r*B+x)+d*(B*s):=by
  rw [h1,←h2,Nat.mul_add,Nat.mul_comm B r,←Nat.mul_assoc,Nat.mul_comm B d,Nat.mul_assoc]
  omega
 refine⟨?_,?_,hr⟩
 ·rw [h3,Nat.add_mul_div_left _ _ hd,Nat.add_mul_mod_self_left]
  have:(r*B+x) / d < B:=by
   rw [Nat.div_lt_iff_lt_mul hd]
   have:=Nat.mul_le_mul_right B (show r+1≤d by omega)
   rw [Nat.succ_mul,Nat.mul_comm d] at this
   omega
  rw [Nat.mod_eq_of_lt this]
 ·rw [h3,Nat.add_mul_mod_self_left]
end Go.Num
namespace Go.Num
def blen (x:Nat):Nat:=if x=0 then 0 else Nat.log2 x+1
theorem blen_spec {x:Nat} (h:x≠0):2^(blen x - 1)≤x∧x < 2^blen x∧0 < blen x:=by
 unfold blen
 rw [if_neg h]
 exact⟨Nat.log2_self_le h,Nat.lt_log2_self,by omega⟩
theorem blen_eq {x k:Nat} (h1:2^k≤x) (h2:x < 2^(k+1)):blen x=k+1:=by
 have h0:x≠0:=fun e=>by subst e;have:=Nat.pow_pos (n:=k) (show 0 < 2 by decide);omega
 unfold blen
 rw [if_neg h0,(Nat.log2_eq_iff h0).2 ⟨h1,h2⟩]
theorem blen_shift {x k:Nat} (h:2^k≤x):blen x=blen (x / 2^k)+k:=by
 have hp:0 < 2^k:=Nat.pow_pos (by decide)
 have h0:x / 2^k≠0:=fun e=>by
  rw [Nat.div_eq_zero_iff] at e
  omega
 obtain⟨h1,h2,h3⟩:=blen_spec h0
 generalize hb:blen (x / 2^k)=b at *
 obtain⟨c,rfl⟩:∃c,b=c+1:=⟨b - 1,by omega⟩
 rw [Nat.add_sub_cancel] at h1
 have h4:x < 2^(c+1+k):=by
  rw [Nat.div_lt_iff_lt_mul hp,←Nat.pow_add] at h2
  exact h2
 have h5:2^(c+k)≤x:=by
  rw [Nat.pow_add]
  exact(Nat.le_div_iff_mul_le hp).1 h1
 rw [blen_eq h5 (by rw [show c+k+1=c+1+k by omega];exact h4)]
 omega
end Go.Num
namespace Go.Proofs
open Go Go.Ex Go.Num
set_option maxRecDepth 100000
def c234:List PV→Option Ans
 |[x,.val (.int .u32 d)]=>(rdU x).map fun r=>⟨some ((isU r.1 r.2∧tame r.1)∧0 < d∧d < 4294967296),.tup [rowU (valG r.1 r.2 / d.toNat),.val (.int .u32 ((valG r.1 r.2%d.toNat:Nat):Int))],[]⟩
 |_=>none
theorem ok234:funcOk {} Tryz.f234 2=true:=by kernel_rfl
theorem f234:FnOk Tryz.prog 234 c234:=by
 refine FnOk.ofW orders (mkE_ok (l:=[(252,c252),(146,c146)]) (own:=[]) (inl:=[]) (by simp [f252,f146]) (by simp)) Tryz.func234 {} 2 ok234 fun args r e=>?_
 unfold c234 at e
 split at e
 ·rename_i x d
  simp only [Option.map_eq_some_iff] at e
  obtain⟨⟨n,g⟩,hx,rfl⟩:=e
  refine⟨by simp,fun hm=>?_⟩
  obtain⟨⟨hu,hn⟩,hd,hd2⟩:=hm _ rfl
  obtain⟨d,rfl⟩:=Int.eq_ofNat_of_zero_le (show 0≤d by omega)
  simp only [Int.toNat_natCast] at hu hn ⊢
  have hN:=valG_lt hu
  have hw:=@rd_weak x _ hx hu
  have hn:n≤4398046511104:=hn
  generalize valG n g=N at *
  clear hx hu hm
  refine⟨[],stOf [(0,.rs 1 n (digU N)),(1,.val (.int .u32 d))] [] 0 [],Wo trivial ⟨hw,rfl,qQ⟩ trivial,?_⟩
  clear hw
  with_unfolding_all refine⟨⟨by omega,by omega,by omega,by show(4:Int)*_≤_;omega⟩,Nat,fun k=>k≤n,fun k=>stOf [(0,.rs 1 n (digU N)),(1,.val (.int .u32 d)),(6,.sl 0 0 0 n),(7,.val (.int .u32 ((N / B^k%d:Nat):Int))),(8,.val (.int .i64 ((k:Int) - 1)))] [⟨139,1,0,false,false,n,digU (N / d / B^k*B^k)⟩] 1 [],
   fun k=>k,⟨n,[some 0],Nat.le_refl _,Wo ⟨qZ (fun i hi=>?_),qQ⟩ ⟨qW,rfl,pP,?_,?_,qQ⟩ trivial⟩,fun k hk=>?_⟩
  ·show digU _ i=[PV.val (.int .u32 0)]
   rw [Nat.div_eq_of_lt (show N / d < B^n from Nat.lt_of_le_of_lt (Nat.div_le_self _ _) hN)]
   simp [digU]
  ·show PV.val (.int .u32 0)=PV.val (.int .u32 ((N / B^n%d:Nat):Int))
   rw [Nat.div_eq_of_lt hN,Nat.zero_mod]
   rfl
  ·show PV.val (.int .i64 (IntKind.i64.wrap ((n:Int) - 1)))=_
   rw [wrap64 (by omega) (by omega)]
  ·replace hk:k≤n:=hk
   have hB:B=4294967296:=rfl
   cases k with
   |zero =>
    have hv:valG n (fun k=>digU (N / d / B^0*B^0) (0+k))=N / d:=by
     have e:(fun k=>digU (N / d / B^0*B^0) (0+k))=digU (N / d):=by funext k;rw [Nat.zero_add];simp
     rw [e,valG_digU,Nat.mod_eq_of_lt (Nat.lt_of_le_of_lt (Nat.div_le_self _ _) hN)]
    have hr:N / B^0%d=N%d:=by simp
    with_unfolding_all refine⟨nofun,fun _=>⟨⟨fun j _=>⟨_,Nat.mod_lt _ (by decide),rfl⟩,hn⟩,[],stOf [(4,rowU (N / d)),(5,.val (.int .u32 ((N%d:Nat):Int)))] [] 0 [],Wo trivial ⟨⟨rfl,?_,?_⟩,?_,qQ⟩ trivial,rfl,rfl⟩⟩
    ·exact congrArg nl hv
    ·intro j _
     exact congrArg (digU · j) hv.symm
    ·show PV.val (.int .u32 ((N / B^0%d:Nat):Int))=PV.val (.int .u32 ((N%d:Nat):Int))
     rw [hr]
   |succ k =>
    obtain⟨s1,s2,s3⟩:=short_step N d k (by omega) (by omega)
    have hx:=Nat.mod_lt (N / B^k) (show 0 < B by decide)
    have hx':N / B^(k:Int).toNat%B < B:=hx
    have hki:(((k+1:Nat):Int) - 1)=((k:Nat):Int):=by omega
    have hq:((N / B^(k+1)%d:Nat):Int)*4294967296+((N / B^k%B:Nat):Int)=((N / B^(k+1)%d*B+N / B^k%B:Nat):Int):=by rw [hB];omega
    with_unfolding_all refine⟨fun _=>⟨⟨by omega,by omega⟩,?_⟩,fun h2=>absurd (of_decide_eq_false h2) (by omega)⟩
    rw [hki]
    with_unfolding_all refine⟨⟨⟨by omega,by omega⟩,⟨by omega,by omega⟩,by omega⟩,⟨by omega,by omega⟩,k,[some 0],?_,Nat.lt_succ_self k,Wo ⟨qZ (fun j hj=>?_),qQ⟩ ⟨qW,rfl,pP,?_,?_,qQ⟩ trivial⟩
    ·show k≤n
     omega
    ·show digU (N / d / B^k*B^k) j=if j=0+k then [PV.val (.int .u32 ((((N / B^(k+1)%d:Nat):Int)*4294967296+((N / B^k%B:Nat):Int)) / d))] else digU (N / d / B^(k+1)*B^(k+1)) j
     rw [Nat.zero_add,digU_hi]
     rw [hq,←s1]
     rfl
    ·show PV.val (.int .u32 ((((N / B^(k+1)%d:Nat):Int)*4294967296+((N / B^k%B:Nat):Int))%d))=PV.val (.int .u32 ((N / B^k%d:Nat):Int))
     rw [hq,←s2]
     rfl
    ·show PV.val (.int .i64 (IntKind.i64.wrap ((k:Int) - 1)))=_
     rw [wrap64 (by omega) (by omega)]
 ·cases e
end Go.Proofs
namespace Go.Proofs
open Go Go.Ex Go.Num
set_option maxRecDepth 100000
def c165:List PV→Option Ans
 |[.val (.int .u32 x)]=>some ⟨some (0≤x∧x < 4294967296),.val (.int .i64 (blen x.toNat:Nat)),[]⟩
 |_=>none
theorem ok165:funcOk {} Tryz.f165 1=true:=by kernel_rfl
theorem tab_at {T:ByteArray} (hT:∀m:Fin 256,(T.data.toList[m.1]?.getD 0).toNat=blen m.1) {w c:Int} {x m:Nat} (hw:w=(m:Nat)) (hm:m < 256) (hc:c+blen m=blen x) (h0:0≤c) (h1:c≤24) :
  PV.val (.int .i64 (IntKind.i64.wrap (c+IntKind.i64.wrap (((T.data.toList[w.toNat]?.getD 0).toNat:Nat):Int))))=PV.val (.int .i64 ((blen (x:Int).toNat:Nat):Int)):=by
 subst hw
 have h2:=hT ⟨m,hm⟩
 simp only at h2
 have h3:blen m≤8:=by
  rcases Nat.eq_zero_or_pos m with h|h
  ·subst h;decide
  ·have:=(blen_spec (show m≠0 by omega)).1
   rcases Nat.lt_or_ge 8 (blen m) with h4|h4
   ·have:2^8≤2^(blen m - 1):=Nat.pow_le_pow_right (by decide) (by omega)
    omega
   ·exact h4
 rw [Int.toNat_natCast,Int.toNat_natCast,h2,wrap64 (x:=((blen m:Nat):Int)) (by omega) (by omega),wrap64 (by omega) (by omega),hc]
theorem f165:FnOk Tryz.prog 165 c165:=by
 refine FnOk.of orders (mkE_ok (l:=[]) (own:=[]) (inl:=[]) (by simp) (by simp)) Tryz.func165 {} 1 ok165 fun args r e=>?_
 unfold c165 at e
 split at e
 ·rename_i x
  cases e
  refine⟨by simp,fun hm=>?_⟩
  obtain⟨h0,h1⟩:=hm _ rfl
  obtain⟨x,rfl⟩:=Int.eq_ofNat_of_zero_le h0
  with_unfolding_all refine⟨fun h2=>⟨by decide,fun h3=>⟨by decide,?_⟩,fun h3=>?_⟩,fun h2=>⟨fun h3=>⟨by decide,?_⟩,fun h3=>?_⟩⟩
  all_goals with_unfolding_all refine⟨?_,?_,rfl⟩
  all_goals have e16:(2:Int)^min (Int.toNat 16) IntKind.u32.bits=65536:=by decide
  all_goals have e8:(2:Int)^min (Int.toNat 8) IntKind.u32.bits=256:=by decide
  all_goals try rw [e16] at h3
  ·rw [e16,e8,wrapU8]
   show _∧_ < ((256:Nat):Int)
   omega
  ·refine tab_at (m:=x / 65536 / 256) (by decide +kernel) (by rw [e16,e8,wrapU8];omega) (by omega) ?_ (by decide) (by decide)
   have h2:=of_decide_eq_true h2
   have h3:=of_decide_eq_true h3
   have b1:=blen_shift (x:=x) (k:=16) (by omega)
   have b2:=blen_shift (x:=x / 2^16) (k:=8) (by omega)
   rw [b1,b2,show IntKind.i64.wrap (16+8)=24 by decide]
   show(24:Int)+((blen (x / 65536 / 256):Nat):Int)=((blen (x / 65536 / 256)+8+16:Nat):Int)
   omega
  ·have h3:=of_decide_eq_false h3
   rw [e16,wrapU8]
   show _∧_ < ((256:Nat):Int)
   omega
  ·have h2:=of_decide_eq_true h2
   have h3:=of_decide_eq_false h3
   refine tab_at (m:=x / 65536) (by decide +kernel) (by rw [e16,wrapU8];omega) (by omega) ?_ (by decide) (by decide)
   have b1:=blen_shift (x:=x) (k:=16) (by omega)
   rw [b1]
   show(16:Int)+((blen (x / 65536):Nat):Int)=((blen (x / 65536)+16:Nat):Int)
   omega
  ·rw [e8,wrapU8]
   show _∧_ < ((256:Nat):Int)
   omega
  ·have h2:=of_decide_eq_false h2
   have h3:=of_decide_eq_true h3
   refine tab_at (m:=x / 256) (by decide +kernel) (by rw [e8,wrapU8];omega) (by omega) ?_ (by decide) (by decide)
   have b1:=blen_shift (x:=x) (k:=8) (by omega)
   rw [b1,show IntKind.i64.wrap (0+8)=8 by decide]
   show(8:Int)+((blen (x / 256):Nat):Int)=((blen (x / 256)+8:Nat):Int)
   omega
  ·rw [wrapU8]
   show _∧_ < ((256:Nat):Int)
   omega
  ·have h2:=of_decide_eq_false h2
   have h3:=of_decide_eq_false h3
   exact tab_at (m:=x) (by decide +kernel) (by rw [wrapU8];omega) (by omega) (by omega) (by decide) (by decide)
 ·cases e
theorem blen_le {x k:Nat} (h:x < 2^k):blen x≤k:=by
 rcases Nat.eq_zero_or_pos x with h0|h0
 ·subst h0;exact Nat.zero_le _
 ·have:=(blen_spec (show x≠0 by omega)).1
  have:2^(blen x - 1) < 2^k:=by omega
  have:=(Nat.pow_lt_pow_iff_right (show 1 < 2 by decide)).1 this
  omega
def c235:List PV→Option Ans
 |[.val (.int .u32 x)]=>some ⟨some (0≤x∧x < 4294967296),.val (.int .i64 ((32 - blen x.toNat:Nat):Int)),[]⟩
 |_=>none
theorem ok235:funcOk {} Tryz.f235 1=true:=by kernel_rfl
theorem f235:FnOk Tryz.prog 235 c235:=by
 refine FnOk.of orders (mkE_ok (l:=[(165,c165)]) (own:=[]) (inl:=[]) (by simp [f165]) (by simp)) Tryz.func235 {} 1 ok235 fun args r e=>?_
 unfold c235 at e
 split at e
 ·rename_i x
  cases e
  refine⟨by simp,fun hm=>?_⟩
  obtain⟨h0,h1⟩:=hm _ rfl
  obtain⟨x,rfl⟩:=Int.eq_ofNat_of_zero_le h0
  have hl:=blen_le (x:=x) (k:=32) (by omega)
  with_unfolding_all refine⟨⟨by omega,by omega⟩,?_,rfl⟩
  show PV.val (.int .i64 (IntKind.i64.wrap (32 - ((blen x:Nat):Int))))=PV.val (.int .i64 ((32 - blen x:Nat):Int))
  rw [wrap64 (by omega) (by omega)]
  congr 2
  omega
 ·cases e
end Go.Proofs
namespace Go.Num
open Go Go.Ex
theorem B_two (s:Nat) (h:s≤32):B=2^s*2^(32 - s):=by
 rw [←Nat.pow_add,show s+(32 - s)=32 by omega]
 rfl
theorem shl_low (N i s:Nat):N%B^i*2^s / B^i < 2^s:=by
 rw [Nat.div_lt_iff_lt_mul (B_pos i),Nat.mul_comm (2^s)]
 exact Nat.mul_lt_mul_of_pos_right (Nat.mod_lt _ (B_pos i)) (Nat.pow_pos (by decide))
theorem shl_mod (x s:Nat) (h:s≤32):x*2^s%B=x%2^(32 - s)*2^s:=by
 rw [B_two s h,Nat.mul_comm x,Nat.mul_mod_mul_left,Nat.mul_comm]
theorem shl_next (N i s:Nat):N%B^(i+1)*2^s=N%B^i*2^s+B^i*(N / B^i%B*2^s):=by
 rw [mod_split,Nat.add_mul,Nat.mul_assoc]
theorem shl_add {h x s:Nat} (hs:s≤32) (hh:h < 2^s):(h+x*2^s)%B=h+x*2^s%B∧(h+x*2^s) / B=x*2^s / B:=by
 have hp:0 < 2^(32 - s):=Nat.pow_pos (by decide)
 have hp2:0 < 2^s:=Nat.pow_pos (by decide)
 have e:h+x*2^s=(h+x%2^(32 - s)*2^s)+B*(x / 2^(32 - s)):=by
  rw [B_two s hs]
  have:=Nat.div_add_mod x (2^(32 - s))
  have h2:x*2^s=(2^(32 - s)*(x / 2^(32 - s))+x%2^(32 - s))*2^s:=by rw [this]
  rw [h2,Nat.add_mul]
  have:2^(32 - s)*(x / 2^(32 - s))*2^s=2^s*2^(32 - s)*(x / 2^(32 - s)):=by rw [Nat.mul_comm (2^(32 - s)*_),Nat.mul_assoc]
  omega
 have hlt:h+x%2^(32 - s)*2^s < B:=by
  have h1:=Nat.mod_lt x hp
  have h2:=Nat.mul_le_mul_right (2^s) (show x%2^(32 - s)+1≤2^(32 - s) by omega)
  rw [Nat.succ_mul,Nat.mul_comm (2^(32 - s)),←B_two s hs] at h2
  omega
 have hd:x*2^s / B=x / 2^(32 - s):=by rw [B_two s hs,Nat.mul_comm x,Nat.mul_div_mul_left _ _ hp2]
 constructor
 ·rw [shl_mod x s hs,e,Nat.add_mul_mod_self_left,Nat.mod_eq_of_lt hlt]
 ·rw [hd,e,Nat.add_mul_div_left _ _ (show 0 < B by decide),Nat.div_eq_of_lt hlt,Nat.zero_add]
theorem shl_set (N i s j:Nat) (hs:s < 32) {v u:Int} (hv:v=((N%B^i*2^s / B^i%B+N / B^i%B*2^s%B:Nat):Int)) (hu:u=((N / B^i%B*2^s / B:Nat):Int)) :
  (if j=i+1 then [PV.val (.int .u32 u)] else if j=i then [PV.val (.int .u32 v)] else digU (N%B^i*2^s) j)=digU (N%B^(i+1)*2^s) j:=by
 subst hv hu
 have hlow:=shl_low N i s
 have hsB:2^s≤B:=by rw [B_two s (by omega)];exact Nat.le_mul_of_pos_right _ (Nat.pow_pos (by decide))
 obtain⟨a1,a2⟩:=shl_add (h:=N%B^i*2^s / B^i) (x:=N / B^i%B) (by omega) hlow
 have hx:=Nat.mod_lt (N / B^i) (show 0 < B by decide)
 have hyB:N / B^i%B*2^s / B < B:=by
  rw [Nat.div_lt_iff_lt_mul (by decide)]
  exact Nat.mul_lt_mul_of_lt_of_le hx hsB (by decide)
 have hdiv:N%B^(i+1)*2^s / B^i=N%B^i*2^s / B^i+N / B^i%B*2^s:=by rw [shl_next,Nat.add_mul_div_left _ _ (B_pos i)]
 simp only [digU]
 split
 ·rename_i h
  subst h
  rw [Nat.pow_succ,←Nat.div_div_eq_div_mul,←Nat.pow_succ,hdiv,a2,Nat.mod_eq_of_lt hyB]
 ·rename_i h
  split
  ·rename_i h2
   subst h2
   rw [hdiv,a1,Nat.mod_eq_of_lt (Nat.lt_of_lt_of_le hlow hsB)]
  ·rename_i h2
   rcases Nat.lt_or_ge j i with h3|h3
   ·rw [shl_next]
    obtain⟨d,rfl⟩:∃d,i=j+1+d:=⟨i - j - 1,by omega⟩
    have hp:B^(j+1+d)=B^j*(B*B^d):=by rw [Nat.pow_add,Nat.pow_succ,Nat.mul_assoc]
    generalize N / B^(j+1+d)%B*2^s=y
    generalize N%B^(j+1+d)*2^s=a
    rw [hp,Nat.mul_assoc,Nat.mul_assoc,Nat.add_mul_div_left _ _ (B_pos j),Nat.add_mul_mod_self_left]
   ·have h4:N%B^i*2^s < B^(i+1):=by
     rw [Nat.pow_succ]
     exact Nat.mul_lt_mul_of_lt_of_le (Nat.mod_lt _ (B_pos i)) hsB (by decide)
    have h5:N%B^(i+1)*2^s < B^(i+2):=by
     rw [show i+2=(i+1)+1 by omega,Nat.pow_succ B (i+1)]
     exact Nat.mul_lt_mul_of_lt_of_le (Nat.mod_lt _ (B_pos (i+1))) hsB (by decide)
    rw [top_zero h4 (by omega),top_zero h5 (by omega)]
end Go.Num
namespace Go.Num
open Go Go.Ex
theorem or64' {a c k:Nat} (h:a < 2^k) (h2:a+c*2^k < 2^64):((BitVec.ofInt 64 (a:Int) ||| BitVec.ofInt 64 ((c*2^k:Nat):Int)).toNat)=a+c*2^k:=by
 have ha:a < 2^64:=by omega
 have hc:c*2^k < 2^64:=by omega
 rw [BitVec.toNat_or,toNat_of ha,toNat_of hc,or_add h]
theorem two_limbs (N i:Nat):N / B^i%(B*B)=N / B^i%B+N / B^(i+1)%B*B:=by
 rw [Nat.mod_mul,Nat.div_div_eq_div_mul,←Nat.pow_succ,Nat.mul_comm B]
theorem shr_limb (N i s:Nat) (hs:s≤32):N / B^i%(B*B) / 2^s%B=N / 2^s / B^i%B:=by
 have hp:0 < 2^s:=Nat.pow_pos (by decide)
 have e:N / 2^s / B^i=N / B^i / 2^s:=by rw [Nat.div_div_eq_div_mul,Nat.div_div_eq_div_mul,Nat.mul_comm]
 rw [e]
 generalize N / B^i=q
 have hB:B*B=2^s*(B*2^(32 - s)):=by
  conv=>lhs;rw [B_two s hs]
  rw [B_two s hs]
  simp only [Nat.mul_comm,Nat.mul_left_comm,Nat.mul_assoc]
 rw [hB,Nat.mod_mul_right_div_self,Nat.mod_mul_right_mod]
end Go.Num
namespace Go.Proofs
open Go Go.Ex Go.Num
set_option maxRecDepth 100000
def c236:List PV→Option Ans
 |[x,.val (.int .i64 s)]=>(rdU x).map fun r=>⟨some ((isU r.1 r.2∧tame (r.1+1))∧0≤s∧s < 32),.sl 0 0 0 (r.1+1),[⟨139,1,0,false,false,r.1+1,digU (valG r.1 r.2*2^s.toNat)⟩]⟩
 |_=>none
theorem ok236:funcOk {} Tryz.f236 2=true:=by kernel_rfl
theorem f236:FnOk Tryz.prog 236 c236:=by
 refine FnOk.ofW orders (mkE_ok (l:=[]) (own:=[]) (inl:=[]) (by simp) (by simp)) Tryz.func236 {} 2 ok236 fun args r e=>?_
 unfold c236 at e
 split at e
 ·rename_i x s
  simp only [Option.map_eq_some_iff] at e
  obtain⟨⟨n,g⟩,hx,rfl⟩:=e
  refine⟨by simp,fun hm=>?_⟩
  obtain⟨⟨hu,hn⟩,hs0,hs⟩:=hm _ rfl
  obtain⟨s,rfl⟩:=Int.eq_ofNat_of_zero_le hs0
  simp only [Int.toNat_natCast] at hu hn ⊢
  have hN:=valG_lt hu
  have hw:=@rd_weak x _ hx hu
  have hn:n+1≤4398046511104:=hn
  generalize valG n g=N at *
  clear hx hu hm
  refine⟨[],stOf [(0,.rs 1 n (digU N)),(1,.val (goInt s))] [] 0 [],Wo trivial ⟨hw,rfl,qQ⟩ trivial,?_⟩
  clear hw
  have hn1:IntKind.i64.wrap ((n:Int)+1)=((n+1:Nat):Int):=by rw [wrap64 (by omega) (by omega)];rfl
  with_unfolding_all refine⟨⟨by rw [hn1];omega,by omega,by rw [hn1];omega,by rw [hn1];show(4:Int)*_≤_;omega⟩,?_⟩
  rw [hn1]
  with_unfolding_all refine⟨Nat,fun i=>i≤n,fun i=>stOf [(1,.val (goInt s)),(5,.sl 0 0 0 (n+1)),(13,.rs 1 n (digU N)),(14,.val (goInt n)),(15,.val (goInt i))] [⟨139,1,0,false,false,n+1,digU (N%B^i*2^s)⟩] 1 [],
   fun i=>n - i,⟨0,[some 0],by omega,Wo ⟨qZ (fun i hi=>?_),qQ⟩ ⟨rfl,pP,qW,rfl,rfl,qQ⟩ trivial⟩,fun i hi=>?_⟩
  ·show digU _ i=[PV.val (.int .u32 0)]
   simp [digU,Nat.mod_one]
  ·replace hi:i≤n:=hi
   have hB:B=4294967296:=rfl
   have hx:=Nat.mod_lt (N / B^i) (show 0 < B by decide)
   with_unfolding_all refine⟨fun h1=>?_,fun h1=>?_⟩
   ·replace h1:i < n:=by have:=ltT h1;omega
    have hi1:IntKind.i64.wrap ((i:Int)+1)=((i+1:Nat):Int):=by rw [wrap64 (by omega) (by omega)];rfl
    with_unfolding_all refine⟨⟨by omega,by omega⟩,by omega,⟨by omega,by omega⟩,⟨by omega,by omega⟩,by decide,⟨by rw [hi1];omega,by rw [hi1];omega⟩,i+1,[some 0],?_,?_,Wo ⟨qZ (fun j hj=>?_),qQ⟩ ⟨rfl,pP,qW,rfl,?_,qQ⟩ trivial⟩
    ·exact h1
    ·show n - (i+1) < n - i
     omega
    ·have h2s:2^s≤2^31:=Nat.pow_le_pow_right (by decide) (by omega)
     have hxs:N / B^i%B*2^s < 2^64:=by
      have:=Nat.mul_le_mul (show N / B^i%B≤2^32 by omega) h2s
      omega
     have hy:IntKind.u64.wrap (IntKind.u64.wrap ((N / B^i%B:Nat):Int)*2^min ((s:Int)).toNat IntKind.u64.bits)=((N / B^i%B*2^s:Nat):Int):=by
      rw [wrapN64 (show N / B^i%B < 2^64 by omega)]
      have e1:min ((s:Int)).toNat IntKind.u64.bits=s:=by simp only [IntKind.bits];omega
      have e2:((N / B^i%B:Nat):Int)*2^s=((N / B^i%B*2^s:Nat):Int):=by rw [Int.natCast_mul,Int.natCast_pow];rfl
      rw [e1,e2,wrapN64 hxs]
     have hlow:=shl_low N i s
     have hmod:=shl_mod (N / B^i%B) s (by omega)
     have hsB:2^s≤B:=by rw [hB];omega
     have hym:=Nat.mod_lt (N / B^i%B*2^s) (show 0 < B by decide)
     have hadd:=(shl_add (h:=N%B^i*2^s / B^i) (x:=N / B^i%B) (s:=s) (by omega) hlow).1
     have hsum:=Nat.mod_lt (N%B^i*2^s / B^i+N / B^i%B*2^s) (show 0 < B by decide)
     rw [hadd] at hsum
     have hlm:N%B^i*2^s / B^i%B=N%B^i*2^s / B^i:=Nat.mod_eq_of_lt (by omega)
     show digU (N%B^(i+1)*2^s) j=if j=0+(IntKind.i64.wrap ((i:Int)+1)).toNat then [PV.val (.int .u32 (IntKind.u32.wrap (IntKind.u64.wrap (IntKind.u64.wrap ((N / B^i%B:Nat):Int)*2^min ((s:Int)).toNat IntKind.u64.bits) / 2^min (Int.toNat 32) IntKind.u64.bits)))]
      else if j=0+i then [PV.val (.int .u32 (IntKind.u32.wrap ((BitVec.ofInt 32 ((N%B^i*2^s / B^(0+i)%B:Nat):Int) ||| BitVec.ofInt 32 (IntKind.u32.wrap (IntKind.u64.wrap (IntKind.u64.wrap ((N / B^i%B:Nat):Int)*2^min ((s:Int)).toNat IntKind.u64.bits)))).toNat:Nat)))] else digU (N%B^i*2^s) j
     have hv:IntKind.u32.wrap ((BitVec.ofInt 32 ((N%B^i*2^s / B^i%B:Nat):Int) ||| BitVec.ofInt 32 (IntKind.u32.wrap ((N / B^i%B*2^s:Nat):Int))).toNat:Int)=((N%B^i*2^s / B^i+N / B^i%B*2^s%B:Nat):Int):=by
      rw [wrapMod (N / B^i%B*2^s),hlm,hmod,or32 hlow (by rw [←hmod];rw [hB] at hsum ⊢;exact hsum),←hmod,wrapMod,Nat.mod_eq_of_lt hsum]
     have hdl:N / B^i%B*2^s / B < B:=by
      rw [Nat.div_lt_iff_lt_mul (by decide)]
      exact Nat.mul_lt_mul_of_lt_of_le hx hsB (by decide)
     rw [hy,hi1,shr32,wrapMod (N / B^i%B*2^s / B),Nat.mod_eq_of_lt hdl,Nat.zero_add,Nat.zero_add,hv]
     have:=shl_set N i s j (by omega) (v:=((N%B^i*2^s / B^i+N / B^i%B*2^s%B:Nat):Int)) (u:=((N / B^i%B*2^s / B:Nat):Int)) (by rw [hlm]) rfl
     rw [←this]
     rfl
    ·show PV.val (.int .i64 (IntKind.i64.wrap ((i:Int)+1)))=PV.val (.int .i64 ((i+1:Nat):Int))
     rw [hi1]
   ·have h1:=ltF h1
    have hi2:i=n:=by omega
    subst hi2
    with_unfolding_all refine⟨[some 0],stOf [(4,.sl 0 0 0 (i+1))] [⟨139,1,0,false,false,i+1,digU (N*2^s)⟩] 1 [],Wo ⟨qZ (fun j hj=>?_),qQ⟩ ⟨pP,qQ⟩ trivial,rfl,rfl⟩
    show digU (N*2^s) j=digU (N%B^i*2^s) j
    rw [Nat.mod_eq_of_lt hN]
 ·cases e
end Go.Proofs
namespace Go.Proofs
open Go Go.Ex Go.Num
set_option maxRecDepth 100000
def c238:List PV→Option Ans
  | [x,.val (.int .i64 s)]=>(rdU x).map fun r=>⟨some ((isU r.1 r.2∧tame r.1)∧0≤s∧s < 32),rowU (valG r.1 r.2 / 2^s.toNat),[]⟩
  | _=>none
theorem ok238:funcOk {} Tryz.f238 2=true:=by kernel_rfl
theorem f238:FnOk Tryz.prog 238 c238:=by
  refine FnOk.ofW orders (mkE_ok (l:=[(146,c146)]) (own:=[]) (inl:=[]) (by simp [f146]) (by simp)) Tryz.func238 { join:=fun c=>match c with | .seq (.region 6 _ _) _=>true|_=>false } 2 ok238 fun args r e=>?_
  unfold c238 at e
  split at e
  · rename_i x s
    simp only [Option.map_eq_some_iff] at e
    obtain⟨⟨n,g⟩,hx,rfl⟩:=e
    refine⟨by simp,fun hm=>?_⟩
    obtain⟨⟨hu,hn⟩,hs0,hs⟩:=hm _ rfl
    obtain⟨s,rfl⟩:=Int.eq_ofNat_of_zero_le hs0
    simp only [Int.toNat_natCast] at hu hn ⊢
    have hN:=valG_lt hu
    have hw:=@rd_weak x _ hx hu
    have hn:n≤4398046511104:=hn
    generalize valG n g=N at *
    clear hx hu hm
    refine⟨[],stOf [(0,.rs 1 n (digU N)),(1,.val (goInt s))] [] 0 [],Wo trivial ⟨hw,rfl,qQ⟩ trivial,?_⟩
    clear hw
    with_unfolding_all refine⟨⟨by omega,by omega,by omega,by show(4:Int)*_≤_;omega⟩,Nat,fun i=>i≤n,fun i=>stOf [(0,.rs 1 n (digU N)),(1,.val (goInt s)),(5,.sl 0 0 0 n),(12,.val (goInt n)),(13,.val (goInt i))] [⟨139,1,0,false,false,n,digU (N / 2^s%B^i)⟩] 1 [],
      fun i=>n - i,⟨0,[some 0],by omega,Wo ⟨qZ (fun i hi=>?_),qQ⟩ ⟨qW,rfl,pP,rfl,rfl,qQ⟩ trivial⟩,fun i hi=>?_⟩
    · show digU _ i=[PV.val (.int .u32 0)]
      simp [digU,Nat.mod_one]
    · replace hi:i≤n:=hi
      have hB:B=4294967296:=rfl
      have hx:=Nat.mod_lt (N / B^i) (show 0 < B by decide)
      have hy:=Nat.mod_lt (N / B^(i+1)) (show 0 < B by decide)
      have h2l:=two_limbs N i
      have hi1:IntKind.i64.wrap ((i:Int)+1)=((i+1:Nat):Int):=by rw [wrap64 (by omega) (by omega)];rfl
      with_unfolding_all refine⟨fun h1=>?_,fun h1=>?_⟩
      · replace h1:i < n:=by have:=ltT h1;omega
        with_unfolding_all refine⟨⟨by omega,by omega⟩,Unit,fun _=>True,fun _=>stOf [(0,.rs 1 n (digU N)),(1,.val (goInt s)),(5,.sl 0 0 0 n),(6,.val (goInt i)),(7,.val (.int .u64 ((N / B^i%(B*B):Nat):Int))),(12,.val (goInt n)),(13,.val (goInt i))] [⟨139,1,0,false,false,n,digU (N / 2^s%B^i)⟩] 1 [],
          ⟨fun h2=>⟨⟨by rw [hi1];omega,by have:=ltT h2;exact this⟩,by decide,(),[some 0],trivial,Wo ⟨qZ (fun j hj=>rfl),qQ⟩ ⟨qW,rfl,pP,rfl,?_,rfl,rfl,qQ⟩ trivial⟩,
           fun h2=>⟨(),[some 0],trivial,Wo ⟨qZ (fun j hj=>rfl),qQ⟩ ⟨qW,rfl,pP,rfl,?_,rfl,rfl,qQ⟩ trivial⟩⟩,fun _ _=>?_⟩
        · show PV.val (.int .u64 (IntKind.u64.wrap ((BitVec.ofInt 64 (IntKind.u64.wrap ((N / B^i%B:Nat):Int)) ||| BitVec.ofInt 64 (IntKind.u64.wrap (IntKind.u64.wrap ((N / B^(IntKind.i64.wrap ((i:Int)+1)).toNat%B:Nat):Int)*2^min (Int.toNat 32) IntKind.u64.bits))).toNat:Int)))=PV.val (.int .u64 _)
          have e1:(2:Int)^min (Int.toNat 32) IntKind.u64.bits=4294967296:=by decide
          have e2:((N / B^(i+1)%B:Nat):Int)*4294967296=((N / B^(i+1)%B*2^32:Nat):Int):=by omega
          rw [hi1,Int.toNat_natCast,e1,wrapN64 (show N / B^i%B < 2^64 by omega),wrapN64 (show N / B^(i+1)%B < 2^64 by omega),e2,wrapN64 (show N / B^(i+1)%B*2^32 < 2^64 by omega),or64' (by omega) (by omega),wrapN64 (by omega),h2l]
          congr 2
        · have h2:=ltF h2
          rw [hi1] at h2
          have hz:=top_zero hN (show n≤i+1 by omega)
          show PV.val (.int .u64 (IntKind.u64.wrap ((N / B^i%B:Nat):Int)))=PV.val (.int .u64 _)
          rw [wrapN64 (show N / B^i%B < 2^64 by omega),h2l,hz,Nat.zero_mul,Nat.add_zero]
        · have hset:=fun j=>digU_set (N / 2^s) i j (v:=IntKind.u32.wrap (((N / B^i%(B*B):Nat):Int) / 2^min ((s:Int)).toNat IntKind.u64.bits)) (by
            have e1:min ((s:Int)).toNat IntKind.u64.bits=s:=by simp only [IntKind.bits];omega
            have e2:((N / B^i%(B*B):Nat):Int) / 2^s=((N / B^i%(B*B) / 2^s:Nat):Int):=by rw [Int.natCast_ediv,Int.natCast_pow];rfl
            rw [e1,e2,wrapMod,shr_limb N i s (by omega)])
          with_unfolding_all refine⟨by omega,⟨by omega,by omega⟩,i+1,[some 0],?_,?_,Wo ⟨qZ (fun j hj=>?_),qQ⟩ ⟨qW,rfl,pP,rfl,?_,qQ⟩ trivial⟩
          · exact h1
          · show n - (i+1) < n - i
            omega
          · refine(hset j).symm.trans ?_
            show _=if j=0+i then _ else _
            rw [Nat.zero_add]
            rfl
          · show PV.val (.int .i64 (IntKind.i64.wrap ((i:Int)+1)))=PV.val (.int .i64 ((i+1:Nat):Int))
            rw [hi1]
      · have h1:=ltF h1
        have hi2:i=n:=by omega
        subst hi2
        have hlt:N / 2^s < B^i:=Nat.lt_of_le_of_lt (Nat.div_le_self _ _) hN
        have hD:N / 2^s%B^i=N / 2^s:=Nat.mod_eq_of_lt hlt
        have hv:valG i (fun k=>digU (N / 2^s%B^i) (0+k))=N / 2^s:=by
          have e:(fun k=>digU (N / 2^s%B^i) (0+k))=digU (N / 2^s):=by funext k;rw [Nat.zero_add,hD]
          rw [e,valG_digU,hD]
        with_unfolding_all refine⟨⟨fun j _=>⟨_,Nat.mod_lt _ (by decide),rfl⟩,hn⟩,[],stOf [(4,rowU (N / 2^s))] [] 0 [],Wo trivial ⟨⟨rfl,?_,?_⟩,qQ⟩ trivial,rfl,rfl⟩
        · exact congrArg nl hv
        · intro j _
          exact congrArg (digU · j) hv.symm
  · cases e
end Go.Proofs
namespace Go.Proofs
open Go Go.Ex Go.Num
set_option maxRecDepth 100000
def c253:List PV→Option Ans
 |[.val (.int .u32 x),.val (.int .u32 y),.val (.int .u32 b)]=>some ⟨some ((0≤x∧x < 4294967296)∧(0≤y∧y < 4294967296)∧0≤b∧b≤1),.val (.tuple #[.int .u32 ((x+y+b)%4294967296),.int .u32 ((x+y+b) / 4294967296)]),[]⟩
 |_=>none
theorem ok253:funcOk {} Tryz.f253 3=true:=by kernel_rfl
theorem f253:FnOk Tryz.prog 253 c253:=by
 refine FnOk.of orders (mkE_ok (l:=[]) (own:=[]) (inl:=[]) (by simp) (by simp)) Tryz.func253 {} 3 ok253 fun args r e=>?_
 unfold c253 at e
 split at e
 ·rename_i x y b
  cases e
  refine⟨by simp,fun hm=>?_⟩
  obtain⟨hx,hy,hb⟩:=hm _ rfl
  obtain⟨X,rfl⟩:=Int.eq_ofNat_of_zero_le hx.1
  obtain⟨Y,rfl⟩:=Int.eq_ofNat_of_zero_le hy.1
  obtain⟨c,rfl⟩:=Int.eq_ofNat_of_zero_le hb.1
  with_unfolding_all refine⟨by decide,?_,rfl⟩
  have hw:IntKind.u64.wrap (IntKind.u64.wrap (IntKind.u64.wrap (X:Int)+IntKind.u64.wrap (Y:Int))+IntKind.u64.wrap (c:Int))=((X+Y+c:Nat):Int):=by
   simp only [wrapU64]
   omega
  have e1:IntKind.u32.wrap ((X+Y+c:Nat):Int)=((X:Int)+Y+c)%4294967296:=by rw [wrapU32];omega
  have e2:IntKind.u32.wrap (((X+Y+c:Nat):Int) / 2^min (Int.toNat 32) IntKind.u64.bits)=((X:Int)+Y+c) / 4294967296:=by
   have e:(2:Int)^min (Int.toNat 32) IntKind.u64.bits=4294967296:=by decide
   rw [e,wrapU32]
   omega
  rw [hw,e1,e2]
 ·cases e
end Go.Proofs
namespace Go.Num
open Go Go.Ex
def mix (X Y m:Nat):Nat:=X%B^m+Y / B^m*B^m
theorem mix_dig (X Y m j:Nat):mix X Y m / B^j%B=if j < m then X / B^j%B else Y / B^j%B:=by
 have hmod:mix X Y m%B^m=X%B^m:=by
  unfold mix
  rw [Nat.add_mul_mod_self_right,Nat.mod_mod]
 have hdiv:mix X Y m / B^m=Y / B^m:=by
  unfold mix
  rw [Nat.add_mul_div_right _ _ (B_pos _),Nat.div_eq_of_lt (Nat.mod_lt _ (B_pos _)),Nat.zero_add]
 split
 ·rename_i h
  have h1:=dig_mod (mix X Y m) m j
  have h2:=dig_mod X m j
  rw [if_pos h] at h1 h2
  rw [←h1,hmod,h2]
 ·rename_i h
  obtain⟨d,rfl⟩:∃d,j=m+d:=⟨j - m,by omega⟩
  rw [Nat.pow_add,←Nat.div_div_eq_div_mul,hdiv,←Nat.div_div_eq_div_mul]
theorem mix_set (X Y m j:Nat) {v:Int} (hv:v=((X / B^m%B:Nat):Int)):(if j=m then [PV.val (.int .u32 v)] else digU (mix X Y m) j)=digU (mix X Y (m+1)) j:=by
 subst hv
 simp only [digU,mix_dig]
 split
 ·rename_i h
  subst h
  rw [if_pos (by omega)]
 ·rename_i h
  rcases Nat.lt_or_ge j m with h2|h2
  ·rw [if_pos h2,if_pos (by omega)]
  ·rw [if_neg (by omega),if_neg (by omega)]
theorem mix_same {X Y m:Nat} (h:X%B^m=Y%B^m):mix X Y m=Y:=by
 unfold mix
 rw [h,Nat.mul_comm]
 exact Nat.mod_add_div Y _
theorem guess_ok {U V P t u' v1 v2 v' u3 g r:Nat} (hV:V=(v1*B+v2)*P+v') (hv':v' < P) (hU:U=(t*B+u3)*P+u') (hgr:g*v1+r=t) (hv1:0 < v1) (hg:g < B)
  (htest:g*v2≤r*B+u3) (hq:U / V≤g) (hP:0 < P):g≤U / V+1:=by
 have h1:g*(v1*B+v2)≤t*B+u3:=by
  rw [←hgr,Nat.mul_add,Nat.add_mul,←Nat.mul_assoc]
  omega
 have h2:g*(v1*B+v2)*P≤U:=by
  have:=Nat.mul_le_mul_right P h1
  omega
 have hVP:B*P≤V:=by
  have h3:B*P≤v1*B*P:=Nat.mul_le_mul_right P (Nat.le_mul_of_pos_left B hv1)
  rw [hV,Nat.add_mul]
  omega
 have hV0:0 < V:=Nat.lt_of_lt_of_le (Nat.mul_pos (by decide) hP) hVP
 rcases Nat.eq_zero_or_pos g with h0|h0
 ·rw [h0];exact Nat.zero_le _
 ·obtain⟨g',rfl⟩:∃g',g=g'+1:=⟨g - 1,by omega⟩
  have h4:g'*V≤U:=by
   have h5:(g'+1)*V=(g'+1)*(v1*B+v2)*P+(g'+1)*v':=by rw [hV,Nat.mul_add,←Nat.mul_assoc]
   have h6:(g'+1)*v'≤B*P:=Nat.mul_le_mul (by omega) (by omega)
   have h7:(g'+1)*V=g'*V+V:=Nat.succ_mul ..
   omega
  have:=(Nat.le_div_iff_mul_le hV0).2 h4
  omega
theorem guess_less {U V P t u' v1 v2 v' u3 g r:Nat} (hV:V=(v1*B+v2)*P+v') (hU:U=(t*B+u3)*P+u') (hu':u' < P) (hgr:g*v1+r=t) (hV0:0 < V)
  (htest:r*B+u3 < g*v2):U / V < g:=by
 have h1:t*B+u3+1≤g*(v1*B+v2):=by
  rw [←hgr,Nat.mul_add,Nat.add_mul,←Nat.mul_assoc]
  omega
 have h2:U < g*V:=by
  have h3:=Nat.mul_le_mul_right P h1
  rw [Nat.succ_mul] at h3
  have h4:g*V=g*(v1*B+v2)*P+g*v':=by rw [hV,Nat.mul_add,←Nat.mul_assoc]
  omega
 exact(Nat.div_lt_iff_lt_mul hV0).2 h2
theorem guess_first {U V P t u' v1 v2 v' u3:Nat} (hV:V=(v1*B+v2)*P+v') (hU:U=(t*B+u3)*P+u') (hu':u' < P) (hu3:u3 < B) (hv1:0 < v1) (hV0:0 < V):U / V≤t / v1:=by
 have h1:U / V < t / v1+1:=by
  rw [Nat.div_lt_iff_lt_mul hV0]
  have h2:=Nat.lt_mul_div_succ t hv1
  have h3:t+1≤(t / v1+1)*v1:=by rw [Nat.mul_comm];omega
  have h4:=Nat.mul_le_mul_right (B*P) h3
  have h5:(t / v1+1)*v1*(B*P)≤(t / v1+1)*V:=by
   rw [Nat.mul_assoc]
   refine Nat.mul_le_mul_left _ ?_
   rw [hV,Nat.add_mul,←Nat.mul_assoc]
   omega
  have h6:U < (t+1)*(B*P):=by
   have h7:(t*B+u3)*P+P≤(t*B+B)*P:=by
    rw [←Nat.succ_mul]
    exact Nat.mul_le_mul_right P (by omega)
   rw [Nat.succ_mul,←Nat.mul_assoc,←Nat.add_mul]
   omega
  omega
 omega
end Go.Num
namespace Go.Num
open Go Go.Ex
theorem gv_limb (g V j:Nat):(g*(V%B^j) / B^j+g*(V / B^j%B))%B=g*V / B^j%B∧(g*(V%B^j) / B^j+g*(V / B^j%B)) / B=g*(V%B^(j+1)) / B^(j+1):=by
 have h1:g*(V%B^j) / B^j+g*(V / B^j%B)=g*(V%B^(j+1)) / B^j:=by
  rw [mod_split,Nat.mul_add,←Nat.mul_assoc,Nat.mul_comm g (B^j),Nat.mul_assoc,Nat.add_mul_div_left _ _ (B_pos j)]
 constructor
 ·rw [h1]
  have h2:g*V=g*(V%B^(j+1))+B^j*(B*(g*(V / B^(j+1)))):=by
   have:=Nat.mod_add_div V (B^(j+1))
   have h3:g*V=g*(V%B^(j+1))+g*(B^(j+1)*(V / B^(j+1))):=by rw [←Nat.mul_add,this]
   rw [h3,Nat.pow_succ]
   congr 1
   simp only [Nat.mul_comm,Nat.mul_left_comm,Nat.mul_assoc]
  rw [h2,Nat.add_mul_div_left _ _ (B_pos j),Nat.add_mul_mod_self_left]
 ·rw [h1,Nat.div_div_eq_div_mul,←Nat.pow_succ]
theorem gv_zero (g V:Nat):g*(V%B^0) / B^0=0:=by simp [Nat.mod_one]
theorem sh_limb (M i j:Nat):M*B^i / B^(i+j)%B=M / B^j%B:=by
 rw [Nat.pow_add,Nat.mul_comm M,Nat.mul_div_mul_left _ _ (B_pos i)]
theorem top_limb (T m j:Nat) (h:j < m):(T+B^m) / B^j%B=T / B^j%B:=by
 obtain⟨d,rfl⟩:∃d,m=j+1+d:=⟨m - j - 1,by omega⟩
 rw [Nat.pow_add,Nat.pow_succ,Nat.mul_assoc,Nat.add_mul_div_left _ _ (B_pos j),Nat.add_mul_mod_self_left]
theorem bor_start (N M i:Nat):bor N (M*B^i) i=0:=by
 unfold bor
 rw [Nat.mul_mod_left,if_neg (Nat.not_lt_zero _)]
theorem car_start (N M i:Nat):car N (M*B^i) i=0:=by
 unfold car
 rw [Nat.mul_mod_left,Nat.add_zero,Nat.div_eq_of_lt (Nat.mod_lt _ (B_pos i))]
theorem bor_end {T M m:Nat} (hT:T < B^m) (hM:M < B^m):bor (T+B^m) M m=if T < M then 1 else 0:=by
 unfold bor
 rw [Nat.add_mod_right,Nat.mod_eq_of_lt hT,Nat.mod_eq_of_lt hM]
theorem end_none {T M m:Nat} (hT:T < B^m) (h:M≤T):mix (T+B^m - M) T m=T - M:=by
 unfold mix
 rw [Nat.div_eq_of_lt hT,Nat.zero_mul,Nat.add_zero,show T+B^m - M=(T - M)+B^m by omega,Nat.add_mod_right,Nat.mod_eq_of_lt (by omega)]
theorem end_bor {T M m:Nat} (hT:T < B^m) (hM:M < B^m) (h:T < M):mix (T+B^m - M) T m=T+B^m - M∧T+B^m - M < B^m:=by
 unfold mix
 rw [Nat.div_eq_of_lt hT,Nat.zero_mul,Nat.add_zero,Nat.mod_eq_of_lt (by omega)]
 exact⟨rfl,by omega⟩
theorem end_back {T W g m:Nat} (hM:(g+1)*W < B^m) (h:T < (g+1)*W) (h2:g*W≤T) :
  mix (T+B^m - (g+1)*W+W) (T+B^m - (g+1)*W) m=T - g*W:=by
 rw [Nat.succ_mul] at *
 unfold mix
 rw [Nat.div_eq_of_lt (show T+B^m - (g*W+W) < B^m by omega),Nat.zero_mul,Nat.add_zero,show T+B^m - (g*W+W)+W=(T - g*W)+B^m by omega,Nat.add_mod_right,Nat.mod_eq_of_lt (by omega)]
theorem long_step (T V i:Nat) (hV:0 < V):T%(V*B^(i+1)) / B^i / V=T / V / B^i%B∧T%(V*B^(i+1)) - T%(V*B^(i+1)) / B^i / V*(V*B^i)=T%(V*B^i)∧T%(V*B^(i+1)) / B^i < V*B:=by
 have hP:=B_pos i
 have e:V*B^(i+1)=V*B^i*B:=by rw [Nat.pow_succ,Nat.mul_assoc]
 have hW:0 < V*B^i:=Nat.mul_pos hV hP
 have h1:T%(V*B^(i+1)) / B^i / V=T / (V*B^i)%B:=by
  rw [Nat.div_div_eq_div_mul,Nat.mul_comm (B^i),e,Nat.mod_mul_right_div_self]
 refine⟨by rw [h1,Nat.div_div_eq_div_mul],?_,?_⟩
 ·rw [h1,e,Nat.mod_mul,Nat.mul_comm (V*B^i),Nat.add_sub_cancel]
 ·rw [Nat.div_lt_iff_lt_mul hP,Nat.mul_assoc,Nat.mul_comm B,←Nat.pow_succ]
  exact Nat.mod_lt _ (Nat.mul_pos hV (B_pos _))
end Go.Num
namespace Go.Num
theorem norm_bounds {M m:Nat} (hm:m=nl M) (hM0:0 < M):blen (M / B^(m - 1)%B)≤32∧32 - blen (M / B^(m - 1)%B) < 32∧M*2^(32 - blen (M / B^(m - 1)%B)) < B^m∧0 < m:=by
 obtain⟨h1,h2⟩:=nl_spec M
 obtain⟨h3,h4⟩:=h2 (by omega)
 rw [←hm] at h1 h3 h4
 obtain⟨k,rfl⟩:∃k,m=k+1:=⟨m - 1,by omega⟩
 rw [Nat.add_sub_cancel] at h3 ⊢
 have hP:=B_pos k
 have htB:M / B^k < B:=by rw [Nat.div_lt_iff_lt_mul hP,Nat.mul_comm,←Nat.pow_succ];exact h1
 rw [Nat.mod_eq_of_lt htB]
 have ht0:M / B^k≠0:=by
  have:=Nat.div_le_div_right (c:=B^k) h3
  rw [Nat.div_self hP] at this
  omega
 obtain⟨b1,b2,b3⟩:=blen_spec ht0
 have b4:blen (M / B^k)≤32:=by
  rcases Nat.lt_or_ge 32 (blen (M / B^k)) with h|h
  ·have:2^32≤2^(blen (M / B^k) - 1):=Nat.pow_le_pow_right (by decide) (by omega)
   have hB:B=4294967296:=rfl
   omega
  ·exact h
 refine⟨b4,by omega,?_,by omega⟩
 have h5:M < 2^blen (M / B^k)*B^k:=by
  have:=Nat.mod_lt M hP
  have h6:=Nat.div_add_mod M (B^k)
  have h7:=Nat.mul_le_mul_right (B^k) (show M / B^k+1≤2^blen (M / B^k) by omega)
  rw [Nat.succ_mul,Nat.mul_comm (M / B^k)] at h7
  omega
 have h8:=Nat.mul_lt_mul_of_pos_right h5 (Nat.pow_pos (n:=32 - blen (M / B^k)) (show 0 < 2 by decide))
 have h9:2^blen (M / B^k)*B^k*2^(32 - blen (M / B^k))=B^(k+1):=by
  have h10:B=2^blen (M / B^k)*2^(32 - blen (M / B^k)):=B_two _ b4
  calc _=B^k*(2^blen (M / B^k)*2^(32 - blen (M / B^k))):=by rw [Nat.mul_comm (2^_) (B^k),Nat.mul_assoc]
   _=B^(k+1):=by rw [←h10,Nat.pow_succ]
 omega
end Go.Num
namespace Go.Num
open Go Go.Ex
theorem join64 {hi lo:Nat} (hh:hi < B) (hl:lo < B):IntKind.u64.wrap ((BitVec.ofInt IntKind.u64.bits (IntKind.u64.wrap (IntKind.u64.wrap (hi:Int)*2^min (Int.toNat 32) IntKind.u64.bits)) ||| BitVec.ofInt IntKind.u64.bits (IntKind.u64.wrap (lo:Int))).toNat:Int)=((hi*B+lo:Nat):Int):=by
 have hB:B=4294967296:=rfl
 rw [wrapN64 (n:=hi) (by omega),wrapN64 (n:=lo) (by omega)]
 have e:(hi:Int)*2^min (Int.toNat 32) IntKind.u64.bits=((hi*2^32:Nat):Int):=by
  show(hi:Int)*2^32=_
  omega
 rw [e,wrapN64 (n:=hi*2^32) (by omega)]
 have h:=or64 (a:=lo) (c:=hi) (k:=32) (by omega) (by omega)
 have h':(BitVec.ofInt IntKind.u64.bits ((hi*2^32:Nat):Int) ||| BitVec.ofInt IntKind.u64.bits (lo:Int)).toNat=lo+hi*2^32:=h
 rw [h',wrapN64 (n:=lo+hi*2^32) (by omega),hB]
 omega
theorem tdiv64 {a b:Nat} (h:a < 2^64):IntKind.u64.wrap ((a:Int).tdiv (b:Int))=((a / b:Nat):Int):=by
 rw [←Int.ofNat_tdiv,wrapN64 (Nat.lt_of_le_of_lt (Nat.div_le_self _ _) h)]
theorem tmod64 (a b:Nat):(a:Int).tmod (b:Int)=((a%b:Nat):Int):=(Int.ofNat_tmod a b).symm
structure DigitF (R V m k:Nat) (t v1 v2 u3 q:Nat):Prop where
 v1B:v1 < B
 v10:0 < v1
 top:R / B^(k+m)%B*B+R / B^(k+m - 1)%B=t
 tB:t < B*B
 first:q≤t / v1
 less:∀g r,g*v1+r=t→r*B+u3 < g*v2→q < g
 ok:∀g r,g*v1+r=t→g < B→g*v2≤r*B+u3→q≤g→g≤q+1
 qB:q < B
 v2B:v2 < B
 u3B:u3 < B
theorem digit_facts {R V m k:Nat} (hR:R < B^(k+m+1)) (hV:V < B^m) (hV0:B^(m - 1)≤V) (hm:2≤m) (hU:R / B^k < V*B) :
  DigitF R V m k (R / B^(k+m - 1)) (V / B^(m - 1)) (V / B^(m - 2)%B) (R / B^(k+m - 2)%B) (R / B^k / V):=by
 obtain⟨m,rfl⟩:∃m',m=m'+2:=⟨m - 2,by omega⟩
 rw [show k+(m+2) - 1=k+(m+1) by omega,show k+(m+2) - 2=k+m by omega,show m+2 - 1=m+1 by omega,show m+2 - 2=m by omega] at *
 have hP:=B_pos m
 have hBp:0 < B:=by decide
 have hVpos:0 < V:=Nat.lt_of_lt_of_le (B_pos _) hV0
 have hv10:0 < V / B^(m+1):=Nat.div_pos hV0 (B_pos _)
 have hv1B:V / B^(m+1) < B:=by rw [Nat.div_lt_iff_lt_mul (B_pos _),Nat.mul_comm,←Nat.pow_succ];exact hV
 have hVd:V=(V / B^(m+1)*B+V / B^m%B)*B^m+V%B^m:=by
  have e:V / B^(m+1)*B+V / B^m%B=V / B^m:=by rw [Nat.mul_comm,←div_step V m]
  rw [e,Nat.mul_comm]
  exact(Nat.div_add_mod V (B^m)).symm
 have hUd:R / B^k=(R / B^(k+(m+1))*B+R / B^(k+m)%B)*B^m+R / B^k%B^m:=by
  have e:R / B^(k+(m+1))*B+R / B^(k+m)%B=R / B^(k+m):=by rw [Nat.mul_comm,←Nat.add_assoc,←div_step R (k+m)]
  rw [e,Nat.pow_add,←Nat.div_div_eq_div_mul,Nat.mul_comm]
  exact(Nat.div_add_mod _ (B^m)).symm
 have hv':=Nat.mod_lt V hP
 have hu':=Nat.mod_lt (R / B^k) hP
 have hu3:=Nat.mod_lt (R / B^(k+m)) hBp
 refine⟨hv1B,hv10,?_,?_,guess_first hVd hUd hu' hu3 hv10 hVpos,fun g r h1 h2=>guess_less hVd hUd hu' h1 hVpos h2,fun g r h1 h2 h3 h4=>guess_ok hVd hv' hUd h1 hv10 h2 h3 h4 hP,?_,Nat.mod_lt _ hBp,hu3⟩
 ·have h1:R / B^(k+(m+2)) < B:=by rw [Nat.div_lt_iff_lt_mul (B_pos _),Nat.mul_comm,←Nat.pow_succ];exact hR
  rw [Nat.mod_eq_of_lt h1,Nat.mul_comm]
  exact(div_step R (k+(m+1))).symm
 ·rw [Nat.div_lt_iff_lt_mul (B_pos _),←Nat.pow_two,←Nat.pow_add]
  exact Nat.lt_of_lt_of_le hR (Nat.pow_le_pow_right hBp (by omega))
 ·exact Nat.div_lt_of_lt_mul hU
structure TakeF (R V m k g:Nat):Prop where
 le:g*V*B^k≤R+B^(k+m+1)
 lt:g*V*B^k < B^(k+m+1)
theorem take_facts {R V m k g:Nat} (hV:V < B^m) (hg:g < B):TakeF R V m k g:=by
 have h1:g*V≤g*B^m:=Nat.mul_le_mul_left g (Nat.le_of_lt hV)
 have h2:g*V < B^(m+1):=by
  rcases Nat.eq_zero_or_pos g with h0|h0
  ·rw [h0,Nat.zero_mul];exact B_pos _
  ·have:=Nat.mul_lt_mul_of_lt_of_le hg (Nat.le_of_lt hV) (B_pos m)
   rw [Nat.pow_succ,Nat.mul_comm (B^m)];exact this
 have h3:g*V*B^k < B^(k+m+1):=by
  rw [show k+m+1=m+1+k by omega,Nat.pow_add]
  exact Nat.mul_lt_mul_of_pos_right h2 (B_pos k)
 exact⟨by omega,h3⟩
theorem car_g {g V j:Nat} (hg:g < B):g*(V%B^j) / B^j < B:=by
 have h:=Nat.mod_lt V (B_pos j)
 have h2:g*(V%B^j) / B^j≤g:=by
  rw [←Nat.mul_div_cancel g (B_pos j)]
  exact Nat.div_le_div_right (by rw [Nat.mul_div_cancel g (B_pos j)];exact Nat.mul_le_mul_left g (Nat.le_of_lt h))
 omega
theorem mul_small {a b:Nat} (ha:a < B) (hb:b < B):a*b≤18446744065119617025:=by
 have:=Nat.mul_le_mul (show a≤4294967295 by have:B=4294967296:=rfl;omega) (show b≤4294967295 by have:B=4294967296:=rfl;omega)
 exact this
theorem digit_end {R V k g:Nat} (hV0:0 < V) (hq:R / B^k / V≤g) (hg:g≤R / B^k / V+1) :
  (g*V*B^k≤R→g=R / B^k / V)∧(R < g*V*B^k→g=R / B^k / V+1∧R / B^k / V*V*B^k≤R):=by
 have hP:=B_pos k
 have hqq:R / B^k / V*V*B^k≤R:=by
  have h1:=Nat.div_mul_le_self (R / B^k) V
  have h2:=Nat.div_mul_le_self R (B^k)
  exact Nat.le_trans (Nat.mul_le_mul_right _ h1) h2
 constructor
 ·intro h
  have h1:g*V≤R / B^k:=(Nat.le_div_iff_mul_le hP).2 h
  have h2:g≤R / B^k / V:=(Nat.le_div_iff_mul_le hV0).2 h1
  omega
 ·intro h
  refine⟨?_,hqq⟩
  rcases Nat.lt_or_ge (R / B^k / V) g with h1|h1
  ·omega
  ·have:g=R / B^k / V:=by omega
   rw [this] at h
   omega
theorem sub_start {R V m k g:Nat} (h:g*V*B^k < B^(k+m+1)):(R+B^(k+m+1) - g*V*B^k)%B^k=R%B^k:=by
 rw [show k+m+1=k+(m+1) by omega,Nat.pow_add] at *
 have e:R+B^k*B^(m+1) - g*V*B^k=R+B^k*(B^(m+1) - g*V):=by
  rw [Nat.mul_sub,Nat.mul_comm (B^k) (g*V)]
  omega
 rw [e,Nat.add_mul_mod_self_left]
end Go.Num
namespace Go.Proofs
open Go Go.Ex Go.Num
set_option maxRecDepth 100000
theorem ok237:funcOk {} Tryz.f237 3=true:=by kernel_rfl
def E237:Env:=mkE [(239,c239),(253,c253)] [] []
theorem E237_ok:EnvOk Tryz.prog E237:=mkE_ok (by simp [f239,f253]) (by simp)
def D237:Opt:={ join:=fun c=>match c with | .region 3 _ _=>true | .block 0 _=>true | .seq (.region 4 _ _) _=>true | .region 16 _ _=>true | .region 25 _ _=>true|_=>false }
theorem small1 {g:Nat} (h:decide ((g:Int) / 2^min (Int.toNat 32) IntKind.u64.bits > 0)=false):g < B:=by
 have h:=of_decide_eq_false h
 rw [shr32,B_val] at h
 rw [B_val]
 omega
theorem great1 {g:Nat} (h:decide ((g:Int) / 2^min (Int.toNat 32) IntKind.u64.bits > 0)=true):B≤g:=by
 have h:=of_decide_eq_true h
 rw [shr32,B_val] at h
 rw [B_val]
 omega
theorem small0 {g:Nat} (h:((g:Int) / 2^min (Int.toNat 32) IntKind.u64.bits==0)=true):g < B:=by
 rw [shr32,B_val] at h
 have h:=beq0 h
 rw [B_val]
 omega
theorem great0 {g:Nat} (h:((g:Int) / 2^min (Int.toNat 32) IntKind.u64.bits==0)=false):B≤g:=by
 rw [shr32,B_val] at h
 have h:=bne0 h
 rw [B_val]
 omega
def L194 (s n m V L k:Nat):List (Nat×PV):=[(8,.val (goInt s)),(9,.sl 0 0 0 (n+1)),(10,.rs 1 m (digU V)),(11,.sl 1 1 0 L),(12,.val (.int .i64 (k:Nat))),(60,.sl 1 1 0 L),(61,.val (.int .i64 (k:Nat)))]
def H194 (n L X:Nat) (q:Nat→List PV):Heap:=[⟨139,1,0,false,false,n+1,digU X⟩,⟨139,1,1,false,false,L,q⟩]
theorem w194 {s n m V L k:Nat} {q g1 g2:Nat→List PV} {fr:Nat→PV} {sv sv':List (Nat→PV)} {fr':Nat→PV} :
  weakF ⟨fr,[⟨139,1,0,false,false,n+1,g1⟩,⟨139,1,1,false,false,L,q⟩],2,sv⟩ ⟨fr',[⟨139,1,0,false,false,n+1,g2⟩,⟨139,1,1,false,false,L,q⟩],2,sv'⟩ [some 0,some 1] (setF (L194 s n m V L k)) (L194 s n m V L k) :=
 ⟨rfl,pP,⟨rfl,rfl,fun _ _=>rfl⟩,pP,rfl,pP,rfl,trivial⟩
theorem digit_walk {R V n m k L s:Nat} {q:Nat→List PV} {fr:Nat→PV} {K:PV→St→Prop} (hR:R < B^(k+m+1)) (hV:V < B^m) (hV0:B^(m - 1)≤V) (hm:2≤m) (hkm:k+m≤n) (hn:n+2≤4398046511104) (hU:R / B^k < V*B)
  (h8:fr 8=.val (goInt s)) (h9:fr 9=.sl 0 0 0 (n+1)) (h10:fr 10=.rs 1 m (digU V)) (h11:fr 11=.sl 1 1 0 L) (h12:fr 12=.val (.int .i64 (k:Nat))) (h60:fr 60=.sl 1 1 0 L) (h61:fr 61=.val (.int .i64 (k:Nat)))
  (hK:K (.val (.int .u32 (R / B^k / V:Nat))) (stOf (L194 s n m V L k) (H194 n L (R - R / B^k / V*(V*B^k)) q) 2 [])) :
  walk Tryz.prog E237 D237 Tryz.f237 [.sl 0 0 0 (n+1),.rs 1 m (digU V),.val (.int .i64 (k:Nat))] ⟨fr,H194 n L R q,2,[]⟩ K:=by
 have hkm1:IntKind.i64.wrap ((k:Int)+m)=((k+m:Nat):Int):=by rw [wrap64 (by omega) (by omega)];rfl
 have hB:B=4294967296:=rfl
 have hkm2:IntKind.i64.wrap (IntKind.i64.wrap ((k:Int)+m) - 1)=((k+m - 1:Nat):Int):=by rw [hkm1,wrap64 (by omega) (by omega)];omega
 have hm1:IntKind.i64.wrap ((m:Int) - 1)=((m - 1:Nat):Int):=by rw [wrap64 (by omega) (by omega)];omega
 obtain⟨t,ht⟩:∃t,t=R / B^(k+m - 1):=⟨_,rfl⟩
 obtain⟨v1,hv1⟩:∃v1,v1=V / B^(m - 1):=⟨_,rfl⟩
 have hv1B:v1 < B:=by rw [hv1,Nat.div_lt_iff_lt_mul (B_pos _),Nat.mul_comm,←Nat.pow_succ,show(m - 1).succ=m by omega];exact hV
 have hv10:0 < v1:=by rw [hv1];exact Nat.div_pos hV0 (B_pos _)
 have F:=digit_facts hR hV hV0 hm hU
 rw [←ht,←hv1] at F
 have htB:=F.tB
 have hBB:B*B=18446744073709551616:=rfl
 with_unfolding_all refine⟨⟨by rw [hkm1];omega,by rw [hkm1];omega⟩,?_⟩
 rw [hkm1]
 with_unfolding_all refine⟨by decide,⟨by rw [hkm2];omega,by rw [hkm2];omega⟩,?_⟩
 rw [hkm2]
 with_unfolding_all refine⟨Unit,fun _=>True,fun _=>stOf [(0,.sl 0 0 0 (n+1)),(1,.rs 1 m (digU V)),(2,.val (.int .i64 (k:Nat))),(7,.val (goInt m)),(9,.val (.int .u64 (t / v1:Nat))),(10,.val (.int .u64 (t%v1:Nat)))] (H194 n L R q) 2 [L194 s n m V L k],?_,fun _ _=>?_⟩
 ·with_unfolding_all refine⟨⟨by rw [hm1];omega,by rw [hm1];omega⟩,?_⟩
  rw [hm1]
  have hne:IntKind.u64.wrap ((V / B^(((m - 1:Nat):Int)).toNat%B:Nat):Int)≠0:=by
   show IntKind.u64.wrap ((V / B^(m - 1)%B:Nat):Int)≠0
   rw [←hv1,Nat.mod_eq_of_lt hv1B,wrapN64 (by omega)];omega
  with_unfolding_all refine⟨hne,⟨by rw [hm1];omega,by rw [hm1];omega⟩,?_⟩
  rw [hm1]
  with_unfolding_all refine⟨hne,(),[some 0,some 1],trivial,Wo ⟨qZ (fun j hj=>rfl),qZ (fun j hj=>rfl),qQ⟩ ⟨pP,qW,rfl,rfl,?_,?_,qQ⟩ ⟨⟨h8,?_⟩,qQ⟩⟩
  ·refine congrArg (fun z=>PV.val (.int .u64 z)) (?_:IntKind.u64.wrap (Int.tdiv (IntKind.u64.wrap ((BitVec.ofInt IntKind.u64.bits (IntKind.u64.wrap (IntKind.u64.wrap ((R / B^(0+(k+m))%B:Nat):Int)*2^min (Int.toNat 32) IntKind.u64.bits)) ||| BitVec.ofInt IntKind.u64.bits (IntKind.u64.wrap ((R / B^(0+(k+m - 1))%B:Nat):Int))).toNat:Int)) (IntKind.u64.wrap ((V / B^(m - 1)%B:Nat):Int)))=((t / v1:Nat):Int))
   rw [Nat.zero_add,Nat.zero_add,join64 (Nat.mod_lt _ (by decide)) (Nat.mod_lt _ (by decide)),F.top,←hv1,Nat.mod_eq_of_lt F.v1B,wrapN64 (n:=v1) (by omega),tdiv64 (by omega)]
  ·refine congrArg (fun z=>PV.val (.int .u64 z)) (?_:(Int.tmod (IntKind.u64.wrap ((BitVec.ofInt IntKind.u64.bits (IntKind.u64.wrap (IntKind.u64.wrap ((R / B^(0+(k+m))%B:Nat):Int)*2^min (Int.toNat 32) IntKind.u64.bits)) ||| BitVec.ofInt IntKind.u64.bits (IntKind.u64.wrap ((R / B^(0+(k+m - 1))%B:Nat):Int))).toNat:Int)) (IntKind.u64.wrap ((V / B^(m - 1)%B:Nat):Int)))=((t%v1:Nat):Int))
   rw [Nat.zero_add,Nat.zero_add,join64 (Nat.mod_lt _ (by decide)) (Nat.mod_lt _ (by decide)),F.top,←hv1,Nat.mod_eq_of_lt F.v1B,wrapN64 (n:=v1) (by omega),tmod64]
  ·exact⟨by show weakV _ _ _ _ (fr 9) _;rw [h9];exact pP,by show weakV _ _ _ _ (fr 10) _;rw [h10];exact⟨rfl,rfl,fun _ _=>rfl⟩,by show weakV _ _ _ _ (fr 11) _;rw [h11];exact pP,h12,by show weakV _ _ _ _ (fr 60) _;rw [h60];exact pP,h61,trivial⟩
 ·clear h8 h9 h10 h11 h12 h60 h61
  clear fr
  with_unfolding_all refine⟨Nat,fun g=>g < B∧R / B^k / V≤g∧g≤R / B^k / V+1,fun g=>stOf [(0,.sl 0 0 0 (n+1)),(1,.rs 1 m (digU V)),(2,.val (.int .i64 (k:Nat))),(7,.val (goInt m)),(9,.val (.int .u64 (g:Nat)))] (H194 n L R q) 2 [L194 s n m V L k],?_,fun g hg=>?_⟩
  ·with_unfolding_all refine⟨Nat×Nat,fun x=>x.1*v1+x.2=t∧R / B^k / V≤x.1,fun x=>stOf [(0,.sl 0 0 0 (n+1)),(1,.rs 1 m (digU V)),(2,.val (.int .i64 (k:Nat))),(7,.val (goInt m)),(9,.val (.int .u64 (x.1:Nat))),(10,.val (.int .u64 (x.2:Nat)))] (H194 n L R q) 2 [L194 s n m V L k],fun x=>x.1,⟨(t / v1,t%v1),[some 0,some 1],⟨by show t / v1*v1+t%v1=t;rw [Nat.mul_comm];exact Nat.div_add_mod t v1,F.first⟩,Wo ⟨qZ (fun j hj=>rfl),qZ (fun j hj=>rfl),qQ⟩ ⟨pP,qW,rfl,rfl,rfl,rfl,qQ⟩ ⟨w194,qQ⟩⟩,fun x hx=>?_⟩
   obtain⟨g,r⟩:=x
   obtain⟨hgr,hqg⟩:=hx
   simp only at hgr hqg
   have hrB:r < 2^64:=by have:=Nat.le_add_left r (g*v1);omega
   have hgB:g < 2^64:=by have:=Nat.le_mul_of_pos_right g hv10;omega
   have e2:IntKind.i64.wrap ((m:Int) - 2)=((m - 2:Nat):Int):=by rw [wrap64 (by omega) (by omega)];omega
   have e3:IntKind.i64.wrap (IntKind.i64.wrap ((k:Int)+m) - 2)=((k+m - 2:Nat):Int):=by rw [hkm1,wrap64 (by omega) (by omega)];omega
   have hX:g < B→IntKind.u64.wrap ((g:Int)*IntKind.u64.wrap ((V / B^(IntKind.i64.wrap ((m:Int) - 2)).toNat%B:Nat):Int))=((g*(V / B^(m - 2)%B):Nat):Int):=fun h=>by
    rw [e2]
    show IntKind.u64.wrap ((g:Int)*IntKind.u64.wrap ((V / B^(m - 2)%B:Nat):Int))=_
    have:=mul_small h F.v2B
    have:=F.v2B
    rw [wrapN64 (n:=V / B^(m - 2)%B) (by omega),←Int.natCast_mul,wrapN64 (by omega)]
   have hY:r < B→IntKind.u64.wrap ((BitVec.ofInt IntKind.u64.bits (IntKind.u64.wrap ((r:Int)*2^min (Int.toNat 32) IntKind.u64.bits)) ||| BitVec.ofInt IntKind.u64.bits (IntKind.u64.wrap ((R / B^(0+(IntKind.i64.wrap (IntKind.i64.wrap ((k:Int)+m) - 2)).toNat)%B:Nat):Int))).toNat:Int)=((r*B+R / B^(k+m - 2)%B:Nat):Int):=fun h=>by
    rw [e3]
    show IntKind.u64.wrap ((BitVec.ofInt IntKind.u64.bits (IntKind.u64.wrap ((r:Int)*2^min (Int.toNat 32) IntKind.u64.bits)) ||| BitVec.ofInt IntKind.u64.bits (IntKind.u64.wrap ((R / B^(0+(k+m - 2))%B:Nat):Int))).toNat:Int)=_
    have:=join64 h F.u3B
    rw [wrapN64 (n:=r) (by omega)] at this
    rw [Nat.zero_add]
    exact this
   with_unfolding_all refine⟨Unit,fun _=>1≤g∧R / B^k / V≤g - 1,fun x=>stOf [(0,.sl 0 0 0 (n+1)),(1,.rs 1 m (digU V)),(2,.val (.int .i64 (k:Nat))),(7,.val (goInt m)),(9,.val (.int .u64 (g:Nat))),(10,.val (.int .u64 (r:Nat)))] (H194 n L R q) 2 [L194 s n m V L k],?_,fun _ hx=>?_⟩
   ·have big:B≤r→g < B→g*(V / B^(m - 2)%B)≤r*B+R / B^(k+m - 2)%B:=fun h1 h2=>by
     have h3:=mul_small h2 F.v2B
     have h4:=Nat.mul_le_mul_right B h1
     omega
    with_unfolding_all refine⟨by decide,fun h1=>⟨by decide,fun h2=>⟨⟨by rw [e2];omega,by rw [e2];omega⟩,by decide,⟨by rw [e3];omega,by rw [e3];omega⟩,fun h3=>⟨(),[some 0,some 1],?_,Wo ⟨qZ (fun j hj=>rfl),qZ (fun j hj=>rfl),qQ⟩ ⟨pP,qW,rfl,rfl,rfl,rfl,qQ⟩ ⟨w194,qQ⟩⟩,fun h3=>⟨g,[some 0,some 1],?_,Wo ⟨qZ (fun j hj=>rfl),qZ (fun j hj=>rfl),qQ⟩ ⟨pP,qW,rfl,rfl,rfl,qQ⟩ ⟨w194,qQ⟩⟩⟩,fun h2=>⟨nofun,fun _=>⟨g,[some 0,some 1],?_,Wo ⟨qZ (fun j hj=>rfl),qZ (fun j hj=>rfl),qQ⟩ ⟨pP,qW,rfl,rfl,rfl,qQ⟩ ⟨w194,qQ⟩⟩⟩⟩,fun h1=>⟨fun _=>⟨(),[some 0,some 1],?_,Wo ⟨qZ (fun j hj=>rfl),qZ (fun j hj=>rfl),qQ⟩ ⟨pP,qW,rfl,rfl,rfl,rfl,qQ⟩ ⟨w194,qQ⟩⟩,nofun⟩⟩
    ·have h1:=small1 h1
     have h2:=small0 h2
     have:=F.less g r hgr (by have:=of_decide_eq_true h3;exact Int.ofNat_lt.1 (by rw [←hX h1,←hY h2];exact this))
     exact⟨Nat.lt_of_le_of_lt (Nat.zero_le _) this,Nat.le_sub_one_of_lt this⟩
    ·have h1:=small1 h1
     have h2:=small0 h2
     exact⟨h1,hqg,F.ok g r hgr h1 (Int.ofNat_le.1 (by rw [←hX h1,←hY h2];exact Int.not_lt.1 (of_decide_eq_false h3))) hqg⟩
    ·have h1:=small1 h1
     have h2:=great0 h2
     exact⟨h1,hqg,F.ok g r hgr h1 (big h2 h1) hqg⟩
    ·have h1:=great1 h1
     have:=Nat.lt_of_lt_of_le F.qB h1
     exact⟨Nat.lt_of_le_of_lt (Nat.zero_le _) this,Nat.le_sub_one_of_lt this⟩
   ·obtain⟨hg1,hqg1⟩:=hx
    have hgr':(g - 1)*v1+(r+v1)=t:=by
     obtain⟨g',rfl⟩:∃g',g=g'+1:=⟨g - 1,by omega⟩
     rw [Nat.succ_mul] at hgr
     rw [Nat.add_sub_cancel]
     omega
    have eg:IntKind.u64.wrap ((g:Int) - 1)=((g - 1:Nat):Int):=by rw [show(g:Int) - 1=((g - 1:Nat):Int) by omega,wrapN64 (by omega)]
    have er:IntKind.u64.wrap ((r:Int)+IntKind.u64.wrap ((V / B^(IntKind.i64.wrap ((m:Int) - 1)).toNat%B:Nat):Int))=((r+v1:Nat):Int):=by
     rw [hm1]
     show IntKind.u64.wrap ((r:Int)+IntKind.u64.wrap ((V / B^(m - 1)%B:Nat):Int))=_
     rw [←hv1,Nat.mod_eq_of_lt hv1B,wrapN64 (by omega),←Int.natCast_add,wrapN64 (by omega)]
    have big:B≤r+v1→g - 1 < B→(g - 1)*(V / B^(m - 2)%B)≤(r+v1)*B+R / B^(k+m - 2)%B:=fun h1 h2=>by
     have h3:=mul_small h2 F.v2B
     have h4:=Nat.mul_le_mul_right B h1
     omega
    have w9:=congrArg (fun z=>PV.val (.int .u64 z)) eg
    have w10:=congrArg (fun z=>PV.val (.int .u64 z)) er
    with_unfolding_all refine⟨⟨by rw [hm1];omega,by rw [hm1];omega⟩,by decide,fun h1=>⟨by decide,fun h2=>⟨g - 1,[some 0,some 1],?_,Wo ⟨qZ (fun j hj=>rfl),qZ (fun j hj=>rfl),qQ⟩ ⟨pP,qW,rfl,rfl,w9,qQ⟩ ⟨w194,qQ⟩⟩,fun h2=>⟨(g - 1,r+v1),[some 0,some 1],⟨hgr',hqg1⟩,by show g - 1 < g;omega,Wo ⟨qZ (fun j hj=>rfl),qZ (fun j hj=>rfl),qQ⟩ ⟨pP,qW,rfl,rfl,w9,w10,qQ⟩ ⟨w194,qQ⟩⟩⟩,fun h1=>⟨nofun,fun _=>⟨(g - 1,r+v1),[some 0,some 1],⟨hgr',hqg1⟩,by show g - 1 < g;omega,Wo ⟨qZ (fun j hj=>rfl),qZ (fun j hj=>rfl),qQ⟩ ⟨pP,qW,rfl,rfl,w9,w10,qQ⟩ ⟨w194,qQ⟩⟩⟩⟩
    have h1:B≤r+v1:=great1 (Eq.trans (by rw [←er]) h1)
    have h2:g - 1 < B:=small0 (Eq.trans (by rw [←eg]) h2)
    exact⟨h2,hqg1,F.ok _ _ hgr' h2 (big h1 h2) hqg1⟩
  ·obtain⟨hgB,hqg,hgq⟩:=hg
   obtain⟨Mle,Mlt⟩:=take_facts (R:=R) (k:=k) hV hgB
   obtain⟨M,hMe⟩:∃M,M=g*V*B^k:=⟨_,rfl⟩
   rw [←hMe] at Mle Mlt
   clear F ht hv1 hv1B hv10 htB t v1
   with_unfolding_all refine⟨Nat,fun j=>j≤m,fun j=>stOf [(0,.sl 0 0 0 (n+1)),(1,.rs 1 m (digU V)),(2,.val (.int .i64 (k:Nat))),(7,.val (goInt m)),(9,.val (.int .u64 (g:Nat))),(11,.val (.int .u64 (g*(V%B^j) / B^j:Nat))),(12,.val (.int .u32 (bor (R+B^(k+m+1)) M (k+j):Nat))),(101,.rs 1 m (digU V)),(102,.val (goInt m)),(103,.val (goInt j))] (H194 n L (mix (R+B^(k+m+1) - M) R (k+j)) q) 2 [L194 s n m V L k],fun j=>m - j,⟨0,[some 0,some 1],Nat.zero_le _,Wo ⟨qZ (fun j hj=>?_),qZ (fun j hj=>rfl),qQ⟩ ⟨pP,qW,rfl,rfl,rfl,?_,?_,qW,rfl,rfl,qQ⟩ ⟨w194,qQ⟩⟩,fun j hj=>?_⟩
   ·show digU (mix (R+B^(k+m+1) - M) R k) j=digU R j
    rw [mix_same]
    rw [hMe]
    exact sub_start (hMe▸Mlt)
   ·show PV.val (.int .u64 0)=PV.val (.int .u64 ((g*(V%B^0) / B^0:Nat):Int))
    rw [gv_zero]
    rfl
   ·show PV.val (.int .u32 0)=PV.val (.int .u32 ((bor (R+B^(k+m+1)) M k:Nat):Int))
    rw [hMe,bor_start]
    rfl
   ·replace hj:j≤m:=hj
    have hkj:IntKind.i64.wrap ((k:Int)+j)=((k+j:Nat):Int):=by rw [wrap64 (by omega) (by omega)];rfl
    have cb:=car_g (V:=V) (j:=j) hgB
    have vb:=Nat.mod_lt (V / B^j) (show 0 < B by decide)
    have pb:=mul_small hgB vb
    have bb:=bor_le (R+B^(k+m+1)) M (k+j)
    have lb:=Nat.mod_lt (mix (R+B^(k+m+1) - M) R (k+j) / B^(k+j)) (show 0 < B by decide)
    obtain⟨g1,g2⟩:=gv_limb g V j
    with_unfolding_all refine⟨fun h1=>?_,fun h1=>?_⟩
    ·replace h1:j < m:=by have:=ltT h1;omega
     have cy:IntKind.u64.wrap (((g*(V%B^j) / B^j:Nat):Int)+IntKind.u64.wrap ((g:Int)*IntKind.u64.wrap ((V / B^j%B:Nat):Int)))=((g*(V%B^j) / B^j+g*(V / B^j%B):Nat):Int):=by
      rw [wrapN64 (n:=V / B^j%B) (by omega),←Int.natCast_mul,wrapN64 (n:=g*(V / B^j%B)) (by omega),←Int.natCast_add,wrapN64 (by omega)]
     have cx:((mix (R+B^(k+m+1) - M) R (k+j) / B^(0+(k+j))%B:Nat):Int)=(((R+B^(k+m+1)) / B^(k+j)%B:Nat):Int):=by
      rw [Nat.zero_add,mix_dig,if_neg (by omega),top_limb _ _ _ (by omega)]
     have cM:M / B^(k+j)%B=g*V / B^j%B:=by rw [hMe,sh_limb]
     have cy2:IntKind.u32.wrap (IntKind.u64.wrap (((g*(V%B^j) / B^j:Nat):Int)+IntKind.u64.wrap ((g:Int)*IntKind.u64.wrap ((V / B^j%B:Nat):Int))))=((M / B^(k+j)%B:Nat):Int):=by
      rw [cy,wrapMod,g1,cM]
     have yb:=Nat.mod_lt (M / B^(k+j)) (show 0 < B by decide)
     have xb:=Nat.mod_lt ((R+B^(k+m+1)) / B^(k+j)) (show 0 < B by decide)
     have hx0:(0:Int)≤((mix (R+B^(k+m+1) - M) R (k+j) / B^(0+(IntKind.i64.wrap ((k:Int)+j)).toNat)%B:Nat):Int)∧((mix (R+B^(k+m+1) - M) R (k+j) / B^(0+(IntKind.i64.wrap ((k:Int)+j)).toNat)%B:Nat):Int) < 4294967296:=by
      rw [hkj]
      show(0:Int)≤((mix (R+B^(k+m+1) - M) R (k+j) / B^(0+(k+j))%B:Nat):Int)∧((mix (R+B^(k+m+1) - M) R (k+j) / B^(0+(k+j))%B:Nat):Int) < 4294967296
      rw [cx];omega
     have hy0:(0:Int)≤IntKind.u32.wrap (IntKind.u64.wrap (((g*(V%B^j) / B^j:Nat):Int)+IntKind.u64.wrap ((g:Int)*IntKind.u64.wrap ((V / B^j%B:Nat):Int))))∧IntKind.u32.wrap (IntKind.u64.wrap (((g*(V%B^j) / B^j:Nat):Int)+IntKind.u64.wrap ((g:Int)*IntKind.u64.wrap ((V / B^j%B:Nat):Int)))) < 4294967296:=by rw [cy2];omega
     have hst:∀i,digU (mix (R+B^(k+m+1) - M) R (k+(j+1))) i=if i=0+(IntKind.i64.wrap ((k:Int)+j)).toNat then [PV.val (.int .u32 ((((mix (R+B^(k+m+1) - M) R (k+j) / B^(0+(IntKind.i64.wrap ((k:Int)+j)).toNat)%B:Nat):Int) - IntKind.u32.wrap (IntKind.u64.wrap (((g*(V%B^j) / B^j:Nat):Int)+IntKind.u64.wrap ((g:Int)*IntKind.u64.wrap ((V / B^j%B:Nat):Int)))) - ((bor (R+B^(k+m+1)) M (k+j):Nat):Int))%4294967296))] else digU (mix (R+B^(k+m+1) - M) R (k+j)) i:=by
      intro i
      rw [hkj,cy2]
      show _=if i=0+(k+j) then [PV.val (.int .u32 ((((mix (R+B^(k+m+1) - M) R (k+j) / B^(0+(k+j))%B:Nat):Int) - _ - _)%4294967296))] else _
      rw [cx,Nat.zero_add]
      exact(mix_set _ _ _ _ (sub_limb Mle (k+j))).symm
     have hbo:(if ((mix (R+B^(k+m+1) - M) R (k+j) / B^(0+(IntKind.i64.wrap ((k:Int)+j)).toNat)%B:Nat):Int) < IntKind.u32.wrap (IntKind.u64.wrap (((g*(V%B^j) / B^j:Nat):Int)+IntKind.u64.wrap ((g:Int)*IntKind.u64.wrap ((V / B^j%B:Nat):Int))))+((bor (R+B^(k+m+1)) M (k+j):Nat):Int) then(1:Int) else 0)=((bor (R+B^(k+m+1)) M (k+(j+1)):Nat):Int):=by
      rw [hkj,cy2]
      show(if ((mix (R+B^(k+m+1) - M) R (k+j) / B^(0+(k+j))%B:Nat):Int) < _ then(1:Int) else 0)=_
      rw [cx]
      exact bor_step _ _ _
     have hca:IntKind.u64.wrap (((g*(V%B^j) / B^j:Nat):Int)+IntKind.u64.wrap ((g:Int)*IntKind.u64.wrap ((V / B^j%B:Nat):Int))) / 2^min (Int.toNat 32) IntKind.u64.bits=((g*(V%B^(j+1)) / B^(j+1):Nat):Int):=by
      rw [cy,shr32,g2]
     have hj1:IntKind.i64.wrap ((j:Int)+1)=((j+1:Nat):Int):=by rw [wrap64 (by omega) (by omega)];rfl
     with_unfolding_all refine⟨⟨by omega,by omega⟩,⟨by rw [hkj];omega,by rw [hkj];omega⟩,⟨hx0,hy0,by omega,by omega⟩,⟨by rw [hkj];omega,by rw [hkj];omega⟩,by decide,j+1,[some 0,some 1],h1,by show m - (j+1) < m - j;omega,Wo ⟨qZ (fun i _=>hst i),qZ (fun j hj=>rfl),qQ⟩ ⟨pP,qW,rfl,rfl,rfl,congrArg (fun z=>PV.val (.int .u64 z)) hca,congrArg (fun z=>PV.val (.int .u32 z)) hbo,qW,rfl,congrArg (fun z=>PV.val (.int .i64 z)) hj1,qQ⟩ ⟨w194,qQ⟩⟩
    ·replace h1:j=m:=by have:=ltF h1;omega
     subst h1
     clear g1 g2 vb pb
     have cx:((mix (R+B^(k+j+1) - M) R (k+j) / B^(0+(k+j))%B:Nat):Int)=(((R+B^(k+j+1)) / B^(k+j)%B:Nat):Int):=by
      rw [Nat.zero_add,mix_dig,if_neg (by omega),top_limb _ _ _ (by omega)]
     have cM:M / B^(k+j)%B=g*(V%B^j) / B^j%B:=by rw [hMe,sh_limb,Nat.mod_eq_of_lt hV]
     have cy2:IntKind.u32.wrap ((g*(V%B^j) / B^j:Nat):Int)=((M / B^(k+j)%B:Nat):Int):=by
      rw [wrapMod,cM]
     have yb:=Nat.mod_lt (M / B^(k+j)) (show 0 < B by decide)
     have xb:=Nat.mod_lt ((R+B^(k+j+1)) / B^(k+j)) (show 0 < B by decide)
     have hx0:(0:Int)≤((mix (R+B^(k+j+1) - M) R (k+j) / B^(0+(IntKind.i64.wrap ((k:Int)+j)).toNat)%B:Nat):Int)∧((mix (R+B^(k+j+1) - M) R (k+j) / B^(0+(IntKind.i64.wrap ((k:Int)+j)).toNat)%B:Nat):Int) < 4294967296:=by
      rw [hkj]
      show(0:Int)≤((mix (R+B^(k+j+1) - M) R (k+j) / B^(0+(k+j))%B:Nat):Int)∧((mix (R+B^(k+j+1) - M) R (k+j) / B^(0+(k+j))%B:Nat):Int) < 4294967296
      rw [cx];omega
     have hst:∀i,(if i=0+(IntKind.i64.wrap ((k:Int)+j)).toNat then [PV.val (.int .u32 ((((mix (R+B^(k+j+1) - M) R (k+j) / B^(0+(IntKind.i64.wrap ((k:Int)+j)).toNat)%B:Nat):Int) - IntKind.u32.wrap ((g*(V%B^j) / B^j:Nat):Int) - ((bor (R+B^(k+j+1)) M (k+j):Nat):Int))%4294967296))] else digU (mix (R+B^(k+j+1) - M) R (k+j)) i)=digU (mix (R+B^(k+j+1) - M) R (k+j+1)) i:=by
      intro i
      rw [hkj,cy2]
      show(if i=0+(k+j) then [PV.val (.int .u32 ((((mix (R+B^(k+j+1) - M) R (k+j) / B^(0+(k+j))%B:Nat):Int) - _ - _)%4294967296))] else _)=_
      rw [cx,Nat.zero_add]
      exact mix_set _ _ _ _ (sub_limb Mle (k+j))
     have hbo:(if ((mix (R+B^(k+j+1) - M) R (k+j) / B^(0+(IntKind.i64.wrap ((k:Int)+j)).toNat)%B:Nat):Int) < IntKind.u32.wrap ((g*(V%B^j) / B^j:Nat):Int)+((bor (R+B^(k+j+1)) M (k+j):Nat):Int) then(1:Int) else 0)=((bor (R+B^(k+j+1)) M (k+j+1):Nat):Int):=by
      rw [hkj,cy2]
      show(if ((mix (R+B^(k+j+1) - M) R (k+j) / B^(0+(k+j))%B:Nat):Int) < _ then(1:Int) else 0)=_
      rw [cx]
      exact bor_step _ _ _
     with_unfolding_all refine⟨Unit,fun _=>True,fun _=>stOf [(0,.sl 0 0 0 (n+1)),(1,.rs 1 j (digU V)),(2,.val (.int .i64 (k:Nat))),(7,.val (goInt j)),(9,.val (.int .u64 (g:Nat))),(12,.val (.int .u32 (bor (R+B^(k+j+1)) M (k+j+1):Nat)))] (H194 n L (mix (R+B^(k+j+1) - M) R (k+j+1)) q) 2 [L194 s n j V L k],
      ⟨⟨by rw [hkj];omega,by rw [hkj];omega⟩,⟨hx0,⟨by rw [cy2];omega,by rw [cy2];omega⟩,by omega,by omega⟩,⟨by rw [hkj];omega,by rw [hkj];omega⟩,(),[some 0,some 1],trivial,Wo ⟨qZ (fun i _=>(hst i).symm),qZ (fun j hj=>rfl),qQ⟩ ⟨pP,qW,rfl,rfl,rfl,congrArg (fun z=>PV.val (.int .u32 z)) hbo,qQ⟩ ⟨w194,qQ⟩⟩,fun _ _=>?_⟩
     clear hst hbo hx0 cx cM cy2 yb xb lb bb
     rw [bor_end hR Mlt]
     have hVp:0 < V:=Nat.lt_of_lt_of_le (B_pos _) hV0
     obtain⟨d1,d2⟩:=digit_end hVp hqg hgq
     rw [←hMe] at d1 d2
     obtain⟨W,hWe⟩:∃W,W=V*B^k:=⟨_,rfl⟩
     have hMW:M=g*W:=by rw [hMe,hWe,Nat.mul_assoc]
     rcases Nat.lt_or_ge R M with h2|h2
     ·rw [if_pos h2]
      obtain⟨d2,d3⟩:=d2 h2
      rw [Nat.mul_assoc,←hWe] at d3
      obtain⟨e1,e2⟩:=end_bor hR Mlt h2
      rw [e1]
      with_unfolding_all refine⟨nofun,fun _=>?_⟩
      have eK:R - R / B^k / V*(V*B^k)=mix (R+B^(k+j+1) - M+W) (R+B^(k+j+1) - M) (k+j+1):=by
       rw [hMW,d2,←hWe]
       exact(end_back (by rw [←d2,←hMW];exact Mlt) (by rw [←d2,←hMW];exact h2) d3).symm
      rw [eK] at hK
      clear eK e1
      obtain⟨N2,hN2⟩:∃N2,N2=R+B^(k+j+1) - M:=⟨_,rfl⟩
      rw [←hN2] at hK e2 ⊢
      with_unfolding_all refine⟨Nat,fun i=>i≤j,fun i=>stOf [(0,.sl 0 0 0 (n+1)),(1,.rs 1 j (digU V)),(2,.val (.int .i64 (k:Nat))),(7,.val (goInt j)),(9,.val (.int .u64 (g:Nat))),(15,.val (.int .u32 (car N2 W (k+i):Nat))),(157,.rs 1 j (digU V)),(158,.val (goInt j)),(159,.val (goInt i))] (H194 n L (mix (N2+W) N2 (k+i)) q) 2 [L194 s n j V L k],fun i=>j - i,⟨0,[some 0,some 1],Nat.zero_le _,Wo ⟨qZ (fun i hj=>?_),qZ (fun j hj=>rfl),qQ⟩ ⟨pP,qW,rfl,rfl,rfl,?_,qW,rfl,rfl,qQ⟩ ⟨w194,qQ⟩⟩,fun i hi=>?_⟩
      ·show digU (mix (N2+W) N2 k) i=digU N2 i
       rw [mix_same]
       rw [hWe,Nat.add_mul_mod_self_right]
      ·show PV.val (.int .u32 0)=PV.val (.int .u32 ((car N2 W k:Nat):Int))
       rw [hWe,car_start]
       rfl
      ·replace hi:i≤j:=hi
       have hki:IntKind.i64.wrap ((k:Int)+i)=((k+i:Nat):Int):=by rw [wrap64 (by omega) (by omega)];rfl
       have cb:=car_le N2 W (k+i)
       have lb:=Nat.mod_lt (N2 / B^(k+i)) (show 0 < B by decide)
       have vb:=Nat.mod_lt (W / B^(k+i)) (show 0 < B by decide)
       have cx:((mix (N2+W) N2 (k+i) / B^(0+(k+i))%B:Nat):Int)=((N2 / B^(k+i)%B:Nat):Int):=by
        rw [Nat.zero_add,mix_dig,if_neg (by omega)]
       have al:=add_limb N2 W (k+i)
       have hx0:(0:Int)≤((mix (N2+W) N2 (k+i) / B^(0+(IntKind.i64.wrap ((k:Int)+i)).toNat)%B:Nat):Int)∧((mix (N2+W) N2 (k+i) / B^(0+(IntKind.i64.wrap ((k:Int)+i)).toNat)%B:Nat):Int) < 4294967296:=by
        rw [hki]
        show(0:Int)≤((mix (N2+W) N2 (k+i) / B^(0+(k+i))%B:Nat):Int)∧((mix (N2+W) N2 (k+i) / B^(0+(k+i))%B:Nat):Int) < 4294967296
        rw [cx];omega
       with_unfolding_all refine⟨fun h1=>?_,fun h1=>?_⟩
       ·replace h1:i < j:=by have:=ltT h1;omega
        have cM:V / B^i%B=W / B^(k+i)%B:=by rw [hWe,sh_limb]
        have cs:=car_step N2 W (k+i)
        have hst:∀l,digU (mix (N2+W) N2 (k+(i+1))) l=if l=0+(IntKind.i64.wrap ((k:Int)+i)).toNat then [PV.val (.int .u32 ((((mix (N2+W) N2 (k+i) / B^(0+(IntKind.i64.wrap ((k:Int)+i)).toNat)%B:Nat):Int)+((V / B^i%B:Nat):Int)+((car N2 W (k+i):Nat):Int))%4294967296))] else digU (mix (N2+W) N2 (k+i)) l:=by
         intro l
         rw [hki,cM]
         show _=if l=0+(k+i) then [PV.val (.int .u32 ((((mix (N2+W) N2 (k+i) / B^(0+(k+i))%B:Nat):Int)+_+_)%4294967296))] else _
         rw [cx,Nat.zero_add]
         refine(mix_set (N2+W) N2 (k+i) l ?_).symm
         rw [←al]
         generalize N2 / B^(k+i)%B=x1
         generalize W / B^(k+i)%B=x2
         generalize car N2 W (k+i)=x3
         rw [B_val]
         omega
        have hbo:(((mix (N2+W) N2 (k+i) / B^(0+(IntKind.i64.wrap ((k:Int)+i)).toNat)%B:Nat):Int)+((V / B^i%B:Nat):Int)+((car N2 W (k+i):Nat):Int)) / 4294967296=((car N2 W (k+(i+1)):Nat):Int):=by
         rw [hki,cM]
         show(((mix (N2+W) N2 (k+i) / B^(0+(k+i))%B:Nat):Int)+_+_) / 4294967296=_
         rw [cx,←Nat.add_assoc,←cs]
         generalize N2 / B^(k+i)%B=x1
         generalize W / B^(k+i)%B=x2
         generalize car N2 W (k+i)=x3
         rw [B_val]
         omega
        have hj1:IntKind.i64.wrap ((i:Int)+1)=((i+1:Nat):Int):=by rw [wrap64 (by omega) (by omega)];rfl
        have vb':=Nat.mod_lt (V / B^i) (show 0 < B by decide)
        have hy0:(0:Int)≤((V / B^i%B:Nat):Int)∧((V / B^i%B:Nat):Int) < 4294967296:=by omega
        with_unfolding_all refine⟨⟨by omega,by omega⟩,⟨by rw [hki];omega,by rw [hki];omega⟩,⟨hx0,hy0,by omega,by omega⟩,⟨by rw [hki];omega,by rw [hki];omega⟩,i+1,[some 0,some 1],h1,by show j - (i+1) < j - i;omega,Wo ⟨qZ (fun l _=>hst l),qZ (fun j hj=>rfl),qQ⟩ ⟨pP,qW,rfl,rfl,rfl,congrArg (fun z=>PV.val (.int .u32 z)) hbo,qW,rfl,congrArg (fun z=>PV.val (.int .i64 z)) hj1,qQ⟩ ⟨w194,qQ⟩⟩
       ·replace h1:i=j:=by have:=ltF h1;omega
        subst h1
        have hst:∀l,digU (mix (N2+W) N2 (k+i+1)) l=if l=0+(IntKind.i64.wrap ((k:Int)+i)).toNat then [PV.val (.int .u32 (IntKind.u32.wrap (((mix (N2+W) N2 (k+i) / B^(0+(IntKind.i64.wrap ((k:Int)+i)).toNat)%B:Nat):Int)+((car N2 W (k+i):Nat):Int))))] else digU (mix (N2+W) N2 (k+i)) l:=by
         intro l
         rw [hki]
         show _=if l=0+(k+i) then [PV.val (.int .u32 (IntKind.u32.wrap (((mix (N2+W) N2 (k+i) / B^(0+(k+i))%B:Nat):Int)+_)))] else _
         rw [cx,Nat.zero_add]
         refine(mix_set (N2+W) N2 (k+i) l ?_).symm
         have hW0:W / B^(k+i)%B=0:=by rw [hWe,sh_limb,Nat.div_eq_of_lt hV,Nat.zero_mod]
         rw [←al,hW0,Nat.add_zero,←Int.natCast_add,wrapMod,Nat.add_comm]
        have hg1:IntKind.u64.wrap ((g:Int) - 1)=((R / B^k / V:Nat):Int):=by
         rw [d2,show(((R / B^k / V+1:Nat):Int) - 1)=((R / B^k / V:Nat):Int) by omega,wrapN64 (Nat.lt_of_lt_of_le (Nat.lt_of_le_of_lt hqg hgB) (by decide))]
        with_unfolding_all refine⟨Unit,fun _=>True,fun _=>stOf [(9,.val (.int .u64 (g:Nat)))] (H194 n L (mix (N2+W) N2 (k+i+1)) q) 2 [L194 s n i V L k],⟨⟨by rw [hki];omega,by rw [hki];omega⟩,⟨by rw [hki];omega,by rw [hki];omega⟩,(),[some 0,some 1],trivial,Wo ⟨qZ (fun l _=>hst l),qZ (fun j hj=>rfl),qQ⟩ ⟨rfl,qQ⟩ ⟨w194,qQ⟩⟩,fun _ _=>?_⟩
        show K (PV.val (.int .u32 (IntKind.u32.wrap (IntKind.u64.wrap ((g:Int) - 1))))) ⟨setF (L194 s n i V L k),H194 n L (mix (N2+W) N2 (k+i+1)) q,2,[]⟩
        rw [hg1,wrapN32 (Nat.lt_of_lt_of_le (Nat.lt_of_le_of_lt hqg hgB) (by decide))]
        exact hK
     ·rw [if_neg (Nat.not_lt.2 h2)]
      have d1:=d1 h2
      rw [end_none hR h2]
      with_unfolding_all refine⟨fun _=>?_,nofun⟩
      show K (PV.val (.int .u32 (IntKind.u32.wrap (g:Int)))) ⟨setF (L194 s n j V L k),H194 n L (R - M) q,2,[]⟩
      rw [wrapN32 (by omega),hMW,d1,hWe]
      exact hK
end Go.Proofs
